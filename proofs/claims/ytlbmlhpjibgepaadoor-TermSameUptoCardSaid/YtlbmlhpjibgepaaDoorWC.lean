/- What chapter 3 speaks of: terms, and how they lie in memory. -/
import Derived.Test.YtlbmlhpjibgepaaDoorWB
import Derived.Test.YtlbmlhpjibgepaaDoorProg
import Derived.Maps.Own
import Derived.Sort.EncStr
namespace Go.Proofs.YtlbmlhpjibgepaaDoor
set_option linter.unusedVariables false
set_option linter.unusedSimpArgs false
set_option maxRecDepth 100000
open Go.RowKit Fw

theorem flatten_enc {X : Type} (enc : X → List PV) (l : List X) (i : Nat) (x : X) (h : l[i]? = some x) : ((l.take (i + 1)).map enc).flatten = ((l.take i).map enc).flatten ++ enc x := by
  rw [List.take_add_one, h]; simp

theorem flat_len {X : Type} {enc : X → List PV} {sz : Nat} (h : ∀ x, (enc x).length = sz) (l : List X) : ((l.map enc).flatten).length = l.length * sz := by
  rw [flatten_len (sz := sz) (fun e he => by obtain ⟨x, _, rfl⟩ := List.mem_map.1 he; exact h x), List.length_map]

theorem flat_chunk {X : Type} {enc : X → List PV} {sz : Nat} (h : ∀ x, (enc x).length = sz) (l : List X) : chunk sz l.length ((l.map enc).flatten) = l.map enc := by
  have := chunk_flatten (sz := sz) (es := l.map enc) (fun e he => by obtain ⟨x, _, rfl⟩ := List.mem_map.1 he; exact h x)
  rwa [List.length_map] at this

theorem flat_bd {X : Type} {enc : X → List PV} {m : Nat} (h : ∀ x, PV.bdL m (enc x) = true) (l : List X) : PV.bdL m ((l.map enc).flatten) = true := by
  induction l with
  | nil => rfl
  | cons x l ih => rw [List.map_cons, List.flatten_cons, PV.bdL_append, h, ih]; rfl

def I64 (n : Int) : Prop := -9223372036854775808 ≤ n ∧ n ≤ 9223372036854775807
theorem wrapId {a : Int} (h : I64 a) : IntKind.i64.wrap a = a := by
  obtain ⟨h1, h2⟩ := h
  unfold IntKind.wrap
  have hb : IntKind.i64.bits = 64 := rfl
  have hsg : IntKind.i64.signed = true := rfl
  simp only [hb, hsg, Bool.true_and, decide_eq_true_eq]
  split <;> omega
theorem wrapS (n : Nat) (h : n + 1 < 9223372036854775808) : IntKind.i64.wrap ((n : Int) + 1) = ((n + 1 : Nat) : Int) := by
  rw [wrapId ⟨by omega, by omega⟩]; omega

/-- A term. -/
inductive Tm where
  | mk (kind : Int) (name : List UInt8) (n : Int) (kids : List Tm)

namespace Tm
def kind : Tm → Int | mk x _ _ _ => x
def name : Tm → List UInt8 | mk _ x _ _ => x
def n : Tm → Int | mk _ _ x _ => x
def kids : Tm → List Tm | mk _ _ _ x => x

mutual
def enc : Tm → List PV
  | mk kind name n ks => [.int .i64 kind, .str name, .int .i64 n, .vec (encs ks) false]
def encs : List Tm → List (List PV)
  | [] => []
  | t :: ts => enc t :: encs ts
end

theorem encs_map (l : List Tm) : encs l = l.map enc := by
  induction l with
  | nil => rfl
  | cons t l ih => rw [encs, ih]; rfl

theorem enc_eq (t : Tm) : t.enc = [.int .i64 t.kind, .str t.name, .int .i64 t.n, .vec (t.kids.map enc) false] := by
  cases t; rw [enc, encs_map]; rfl

theorem kids_lt {t k : Tm} (h : k ∈ t.kids) : SizeOf.sizeOf k < SizeOf.sizeOf t := by
  cases t
  have := List.sizeOf_lt_of_mem h
  simp only [kids, mk.sizeOf_spec] at this ⊢
  omega

theorem ext {a b : Tm} (h0 : a.kind = b.kind) (h1 : a.name = b.name) (h2 : a.n = b.n) (hk : a.kids = b.kids) : a = b := by
  cases a; cases b; simp_all [kind, name, n, kids]

theorem fw : (∀ t : Tm, t.enc.length = 4) ∧
    (∀ t : Tm, t.enc[0]? = some (.int .i64 t.kind)) ∧
    (∀ t : Tm, t.enc[1]? = some (.str t.name)) ∧
    (∀ t : Tm, t.enc[2]? = some (.int .i64 t.n)) ∧
    (∀ t : Tm, t.enc[3]? = some (.vec (t.kids.map enc) false)) ∧
    (∀ t : Tm, t.enc.drop 1 = [.str t.name, .int .i64 t.n, .vec (t.kids.map enc) false]) ∧
    (∀ t : Tm, t.enc.drop 2 = [.int .i64 t.n, .vec (t.kids.map enc) false]) ∧
    (∀ t : Tm, t.enc.drop 3 = [.vec (t.kids.map enc) false]) ∧
    (∀ t : Tm, t.enc.take 4 = t.enc) ∧
    (∀ (t : Tm) (l : List PV), (t.enc ++ l).take 4 = t.enc) ∧
    (∀ (m : Nat) (t : Tm), PV.bdL m t.enc = true) ∧
    (∀ (t : Tm) (l : List PV) (k : Nat), (t.enc ++ l).drop (k + 4) = l.drop k) ∧
    (∀ (t : Tm) (l : List PV) (k : Nat), (t.enc ++ l).take (k + 4) = t.enc ++ l.take k) := by
  refine ⟨?_, ?_, ?_, ?_, ?_, ?_, ?_, ?_, ?_, ?_, ?_, ?_, ?_⟩
  · intro t; rw [enc_eq]; rfl
  · intro t; rw [enc_eq]; rfl
  · intro t; rw [enc_eq]; rfl
  · intro t; rw [enc_eq]; rfl
  · intro t; rw [enc_eq]; rfl
  · intro t; rw [enc_eq]; rfl
  · intro t; rw [enc_eq]; rfl
  · intro t; rw [enc_eq]; rfl
  · intro t; rw [enc_eq]; rfl
  · intro t l; rw [enc_eq]; rfl
  · intro m t; rw [enc_eq]; rfl
  · intro t l k; rw [enc_eq]; rfl
  · intro t l k; rw [enc_eq]; rfl
theorem enc_len (t : Tm) : t.enc.length = 4 := by rw [enc_eq]; rfl
theorem bd (m : Nat) (t : Tm) : PV.bdL m t.enc = true := by rw [enc_eq]; rfl
theorem bdM {m : Nat} (l : List Tm) : PV.bdL m ((l.map enc).flatten) = true := flat_bd (fun t => bd m t) l
/-- Lists that memory holds, within, too. -/
inductive Ok : Tm → Prop
  | mk (t : Tm) (h2 : t.kids.length * 56 ≤ reachBytes) (h3 : ∀ k ∈ t.kids, Ok k) : Ok t
mutual
/-- How much it holds. -/
def w : Tm → Nat
  | mk _ _ _ ks => ws ks + 1
def ws : List Tm → Nat
  | [] => 0
  | t :: ts => w t + ws ts
end
theorem ws_sum : ∀ l : List Tm, ws l = (l.map w).sum
  | [] => rfl
  | b :: l => by simp only [ws, List.map_cons, List.sum_cons, ws_sum l]
theorem w_eq (t : Tm) : t.w = (t.kids.map w).sum + 1 := by cases t; simp only [w, ws_sum, kids]
end Tm
noncomputable instance : DecidableEq Tm := fun _ _ => Classical.propDecidable _

def S1 (s : List UInt8) : List PV := [.str s]
theorem S1_len (n : List UInt8) : (S1 n).length = 1 := rfl
theorem S1_fw : (∀ n, (S1 n).length = 1) ∧ (∀ n, (S1 n)[0]? = some (.str n)) ∧ (∀ (m : Nat) n, PV.bdL m (S1 n) = true) := ⟨fun _ => rfl, fun _ => rfl, fun _ _ => rfl⟩

end Go.Proofs.YtlbmlhpjibgepaaDoor

/- Facts on the types and functions of this seat's program, printed by a tool of mine. -/
namespace Go.Proofs.YtlbmlhpjibgepaaDoor
set_option linter.unusedVariables false
set_option linter.unusedSimpArgs false
set_option maxRecDepth 100000
open Go.RowKit Fw
theorem en2 : Enters Tryd.prog 2 := enters_of Tryd.func2 rfl rfl
theorem en3 : Enters Tryd.prog 3 := enters_of Tryd.func3 rfl rfl
theorem en4 : Enters Tryd.prog 4 := enters_of Tryd.func4 rfl rfl
theorem en5 : Enters Tryd.prog 5 := enters_of Tryd.func5 rfl rfl
theorem en6 : Enters Tryd.prog 6 := enters_of Tryd.func6 rfl rfl
theorem en7 : Enters Tryd.prog 7 := enters_of Tryd.func7 rfl rfl
theorem en8 : Enters Tryd.prog 8 := enters_of Tryd.func8 rfl rfl
theorem en9 : Enters Tryd.prog 9 := enters_of Tryd.func9 rfl rfl
theorem en10 : Enters Tryd.prog 10 := enters_of Tryd.func10 rfl rfl
theorem en11 : Enters Tryd.prog 11 := enters_of Tryd.func11 rfl rfl
theorem en12 : Enters Tryd.prog 12 := enters_of Tryd.func12 rfl rfl
theorem en13 : Enters Tryd.prog 13 := enters_of Tryd.func13 rfl rfl
theorem en14 : Enters Tryd.prog 14 := enters_of Tryd.func14 rfl rfl
theorem en15 : Enters Tryd.prog 15 := enters_of Tryd.func15 rfl rfl
theorem en16 : Enters Tryd.prog 16 := enters_of Tryd.func16 rfl rfl
theorem en17 : Enters Tryd.prog 17 := enters_of Tryd.func17 rfl rfl
theorem en18 : Enters Tryd.prog 18 := enters_of Tryd.func18 rfl rfl
theorem en19 : Enters Tryd.prog 19 := enters_of Tryd.func19 rfl rfl
theorem en20 : Enters Tryd.prog 20 := enters_of Tryd.func20 rfl rfl
theorem en21 : Enters Tryd.prog 21 := enters_of Tryd.func21 rfl rfl
theorem en22 : Enters Tryd.prog 22 := enters_of Tryd.func22 rfl rfl
theorem en23 : Enters Tryd.prog 23 := enters_of Tryd.func23 rfl rfl
theorem en24 : Enters Tryd.prog 24 := enters_of Tryd.func24 rfl rfl
theorem en25 : Enters Tryd.prog 25 := enters_of Tryd.func25 rfl rfl
theorem en26 : Enters Tryd.prog 26 := enters_of Tryd.func26 rfl rfl
theorem en27 : Enters Tryd.prog 27 := enters_of Tryd.func27 rfl rfl
theorem en28 : Enters Tryd.prog 28 := enters_of Tryd.func28 rfl rfl
theorem en29 : Enters Tryd.prog 29 := enters_of Tryd.func29 rfl rfl
theorem en30 : Enters Tryd.prog 30 := enters_of Tryd.func30 rfl rfl
theorem en31 : Enters Tryd.prog 31 := enters_of Tryd.func31 rfl rfl
theorem en32 : Enters Tryd.prog 32 := enters_of Tryd.func32 rfl rfl
theorem en33 : Enters Tryd.prog 33 := enters_of Tryd.func33 rfl rfl
theorem en34 : Enters Tryd.prog 34 := enters_of Tryd.func34 rfl rfl
theorem en35 : Enters Tryd.prog 35 := enters_of Tryd.func35 rfl rfl
theorem en36 : Enters Tryd.prog 36 := enters_of Tryd.func36 rfl rfl
theorem en37 : Enters Tryd.prog 37 := enters_of Tryd.func37 rfl rfl
theorem en38 : Enters Tryd.prog 38 := enters_of Tryd.func38 rfl rfl
theorem en39 : Enters Tryd.prog 39 := enters_of Tryd.func39 rfl rfl
theorem en40 : Enters Tryd.prog 40 := enters_of Tryd.func40 rfl rfl
theorem en41 : Enters Tryd.prog 41 := enters_of Tryd.func41 rfl rfl
theorem en42 : Enters Tryd.prog 42 := enters_of Tryd.func42 rfl rfl
theorem en43 : Enters Tryd.prog 43 := enters_of Tryd.func43 rfl rfl
theorem en44 : Enters Tryd.prog 44 := enters_of Tryd.func44 rfl rfl
theorem en45 : Enters Tryd.prog 45 := enters_of Tryd.func45 rfl rfl
theorem en46 : Enters Tryd.prog 46 := enters_of Tryd.func46 rfl rfl
theorem en47 : Enters Tryd.prog 47 := enters_of Tryd.func47 rfl rfl
theorem en48 : Enters Tryd.prog 48 := enters_of Tryd.func48 rfl rfl
theorem en49 : Enters Tryd.prog 49 := enters_of Tryd.func49 rfl rfl
theorem en50 : Enters Tryd.prog 50 := enters_of Tryd.func50 rfl rfl
theorem en51 : Enters Tryd.prog 51 := enters_of Tryd.func51 rfl rfl
theorem en52 : Enters Tryd.prog 52 := enters_of Tryd.func52 rfl rfl
theorem en53 : Enters Tryd.prog 53 := enters_of Tryd.func53 rfl rfl
theorem en54 : Enters Tryd.prog 54 := enters_of Tryd.func54 rfl rfl
theorem en55 : Enters Tryd.prog 55 := enters_of Tryd.func55 rfl rfl
theorem en56 : Enters Tryd.prog 56 := enters_of Tryd.func56 rfl rfl
theorem en57 : Enters Tryd.prog 57 := enters_of Tryd.func57 rfl rfl
theorem en58 : Enters Tryd.prog 58 := enters_of Tryd.func58 rfl rfl
theorem en59 : Enters Tryd.prog 59 := enters_of Tryd.func59 rfl rfl
theorem en60 : Enters Tryd.prog 60 := enters_of Tryd.func60 rfl rfl
theorem en61 : Enters Tryd.prog 61 := enters_of Tryd.func61 rfl rfl
theorem en62 : Enters Tryd.prog 62 := enters_of Tryd.func62 rfl rfl
theorem en63 : Enters Tryd.prog 63 := enters_of Tryd.func63 rfl rfl
theorem en64 : Enters Tryd.prog 64 := enters_of Tryd.func64 rfl rfl
theorem en65 : Enters Tryd.prog 65 := enters_of Tryd.func65 rfl rfl
theorem en66 : Enters Tryd.prog 66 := enters_of Tryd.func66 rfl rfl
theorem en67 : Enters Tryd.prog 67 := enters_of Tryd.func67 rfl rfl
theorem en68 : Enters Tryd.prog 68 := enters_of Tryd.func68 rfl rfl
theorem en69 : Enters Tryd.prog 69 := enters_of Tryd.func69 rfl rfl
theorem en70 : Enters Tryd.prog 70 := enters_of Tryd.func70 rfl rfl
theorem en71 : Enters Tryd.prog 71 := enters_of Tryd.func71 rfl rfl
theorem en72 : Enters Tryd.prog 72 := enters_of Tryd.func72 rfl rfl
theorem ar57 : arOf Tryd.prog 57 = some (14, 1) := by kernel_rfl
theorem el22 : elOf Tryd.prog 22 = some (4, 56) := by kernel_rfl
theorem el26 : elOf Tryd.prog 26 = some (4, 56) := by kernel_rfl
theorem el37 : elOf Tryd.prog 37 = some (1, 16) := by kernel_rfl
theorem el46 : elOf Tryd.prog 46 = some (1, 8) := by kernel_rfl
theorem el57 : elOf Tryd.prog 57 = none := by kernel_rfl
theorem fl24_0 : fldOf Tryd.prog 24 0 = some (0, 1, false) := by kernel_rfl
theorem fl24_1 : fldOf Tryd.prog 24 1 = some (1, 1, false) := by kernel_rfl
theorem fl24_2 : fldOf Tryd.prog 24 2 = some (2, 1, false) := by kernel_rfl
theorem fl24_3 : fldOf Tryd.prog 24 3 = some (3, 1, false) := by kernel_rfl
theorem fl28_0 : fldOf Tryd.prog 28 0 = some (0, 1, false) := by kernel_rfl
theorem fl28_1 : fldOf Tryd.prog 28 1 = some (1, 1, false) := by kernel_rfl
theorem fl28_2 : fldOf Tryd.prog 28 2 = some (2, 1, false) := by kernel_rfl
theorem fl28_3 : fldOf Tryd.prog 28 3 = some (3, 1, false) := by kernel_rfl
theorem pl24 : plOf Tryd.prog 24 = some [(0, 1), (1, 1), (2, 1), (3, 1)] := by kernel_rfl
theorem pl28 : plOf Tryd.prog 28 = some [(0, 1), (1, 1), (2, 1), (3, 1)] := by kernel_rfl
theorem ti2 : tiOf Tryd.prog 2 = some ⟨1, 8, false, [.int .i64 0]⟩ := by kernel_rfl
theorem ti3 : tiOf Tryd.prog 3 = some ⟨1, 8, false, [.int .i64 0]⟩ := by kernel_rfl
theorem ti9 : tiOf Tryd.prog 9 = some ⟨1, 16, false, [.str []]⟩ := by kernel_rfl
theorem ti22 : tiOf Tryd.prog 22 = some ⟨1, 24, false, [.vec [] true]⟩ := by kernel_rfl
theorem ti24 : tiOf Tryd.prog 24 = some ⟨4, 56, true, [.int .i64 0, .str [], .int .i64 0, .vec [] true]⟩ := by kernel_rfl
theorem ti26 : tiOf Tryd.prog 26 = some ⟨1, 24, false, [.vec [] true]⟩ := by kernel_rfl
theorem ti28 : tiOf Tryd.prog 28 = some ⟨4, 56, true, [.int .i64 0, .str [], .int .i64 0, .vec [] true]⟩ := by kernel_rfl
theorem ti32 : tiOf Tryd.prog 32 = some ⟨1, 8, false, [.nilf]⟩ := by kernel_rfl
theorem ti37 : tiOf Tryd.prog 37 = some ⟨1, 24, false, [.vec [] true]⟩ := by kernel_rfl
theorem ti50 : tiOf Tryd.prog 50 = some ⟨1, 8, false, [.nilm]⟩ := by kernel_rfl
theorem ti51 : tiOf Tryd.prog 51 = some ⟨1, 8, false, [.nilf]⟩ := by kernel_rfl
theorem ti83 : tiOf Tryd.prog 83 = some ⟨1, 8, false, [.int .u64 0]⟩ := by kernel_rfl
theorem un3 : Tryd.prog.underlying 3 = some (.int .i64) := by kernel_rfl
theorem un4 : Tryd.prog.underlying 4 = some .bool := by kernel_rfl
theorem un5 : Tryd.prog.underlying 5 = some (.int .u8) := by kernel_rfl
theorem un9 : Tryd.prog.underlying 9 = some .string := by kernel_rfl
theorem un22 : Tryd.prog.underlying 22 = some (.slice 24) := by kernel_rfl
theorem un26 : Tryd.prog.underlying 26 = some (.slice 28) := by kernel_rfl
theorem un37 : Tryd.prog.underlying 37 = some (.slice 9) := by kernel_rfl
theorem un46 : Tryd.prog.underlying 46 = some (.slice 3) := by kernel_rfl
theorem un50 : Tryd.prog.underlying 50 = some (.map 9 3) := by kernel_rfl
theorem un69 : Tryd.prog.underlying 69 = some (.int .u64) := by kernel_rfl
theorem un80 : Tryd.prog.underlying 80 = some (.int .u32) := by kernel_rfl
theorem un82 : Tryd.prog.underlying 82 = some (.int .u64) := by kernel_rfl
theorem un83 : Tryd.prog.underlying 83 = some (.int .u64) := by kernel_rfl
theorem mixed : Tryd.prog.follows .mixedOrders = true := by kernel_rfl
end Go.Proofs.YtlbmlhpjibgepaaDoor

/- The framework, twenty-seventh part: what a contract of the library's lays anew. -/
namespace Go.Proofs.YtlbmlhpjibgepaaDoor.Fw
set_option linter.unusedVariables false
set_option linter.unusedSimpArgs false
set_option maxRecDepth 100000
open Go.RowKit

/-- The world grows, and nothing that lay is turned. -/
theorem Sim.grown {Γ : Nat → PV} {w0 w w' : World} {G : Ghost} {H : List Blk} (h : Sim Γ w0 G H w) (hb : Below w.heap.size w w') : Sim Γ w0 G H w' :=
  h.step (Evol.refl _ _) (fun _ _ => rfl) (h.below.trans ⟨hb.os, hb.tape, hb.output, hb.size, fun k hk => hb.block k (Nat.lt_of_lt_of_le hk h.size)⟩) hb.size (fun k B hB hl => hb.block _ (h.own k B hB hl).2.1)
    (fun a v ha => by
      have := h.mem a v ha
      rw [cell_of_heap (w := w) (hb.block _ (World.block_lt_of_cell? w a this))]; exact this)
    (fun k B hB hl => (h.own k B hB hl).2.2)

/-- A row laid anew is not turned any more. -/
theorem Sim.newOwn {X : Type} {Γ : Nat → PV} {w0 w w' : World} {G : Ghost} {H : List Blk} (h : Sim Γ w0 G H w) (hb : Below w.heap.size w w') {base : Nat} {e : TypeId} {v : Value} {xs : List X} {encV : X → Value} {encP : X → PV}
    (ho : w'.ownsRow base e 1 v xs.length (xs.map encV)) (hbase : w.heap.size ≤ base) (hr : ∀ x ∈ xs, ∀ G, Rep G 0 (encP x) (encV x)) (h1 : ∀ x, (encV x).oneCell' = true) :
    ∃ G', Sim Γ w0 G' H w' ∧ Evol G H.length G' ∧ ∀ n, Rep G' n (.vec (xs.map fun x => [encP x]) false) v := by
  have hs := h.grown hb
  rcases ho.2 with ⟨rfl, h0⟩ | ⟨g, cap, cur, rfl, hg, hheap, hc, hcm, hsz, htk⟩
  · have : xs = [] := List.eq_nil_of_length_eq_zero h0
    subst this
    exact ⟨G, hs, Evol.refl _ _, fun n => .vec0 _ _ _⟩
  · have hM : ∀ o s, G.M ⟨g, o, s⟩ = none := fun o s => h.M_new (by omega) o s
    have hcur : ∀ (i : Nat) x, xs[i]? = some x → cur[i]? = some (encV x) := fun i x hx => by
      have hi := (List.getElem?_eq_some_iff.1 hx).1
      have := congrArg (·[i]?) htk
      simp only [List.getElem?_map, hx, Option.map_some, Nat.mul_one] at this
      rwa [List.getElem?_take_of_lt hi, Array.getElem?_toList] at this
    refine ⟨G.keep g xs.length cur, hs.step (Evol.keep _ hM) (fun _ _ => rfl) hs.below (Nat.le_refl _) (fun _ _ _ _ => rfl) (fun a u ha => ?_) (fun k B hB hl o s => ?_), Evol.keep _ hM, fun n => ?_⟩
    · obtain ⟨b, o, s⟩ := a
      by_cases hbg : b = g
      · subst hbg
        simp only [Ghost.keep] at ha
        split at ha
        · rename_i hcc
          obtain ⟨_, hsp, _⟩ := hcc
          subst hsp
          simp only [World.cell?, hheap]
          simpa using ha
        · rw [hM] at ha; cases ha
      · rw [G.keep_other hbg] at ha
        exact hs.mem _ u ha
    · have := h.own k B hB hl
      rw [G.keep_other (by omega)]; exact this.2.2 o s
    · have hr' : Rep (G.keep g xs.length cur) n (.vec (xs.map fun x => [encP x]) false) (.slice (some ⟨g, 0, none⟩) (xs.map fun x => [encP x]).length cap) := by
        have key : ∀ (i j : Nat) ee c, (xs.map fun x => [encP x])[i]? = some ee → ee[j]? = some c → j = 0 ∧ ∃ x, xs[i]? = some x ∧ c = encP x := fun i j ee c hi hj => by
          rw [List.getElem?_map] at hi
          obtain ⟨x, hx, rfl⟩ := Option.map_eq_some_iff.1 hi
          cases j with
          | zero => simp at hj; exact ⟨rfl, x, hx, hj.symm⟩
          | succ j => simp at hj
        refine .vec n _ false g 0 1 cap (fun i => cur.getD i undef) (by rw [List.length_map]; unfold maxLen at hcm; omega) (by rw [List.length_map]; exact hc) (fun hf => by cases hf) (fun ee he => by
          obtain ⟨x, _, rfl⟩ := List.mem_map.1 he; rfl) (fun i j ee c hi hj => ?_) (fun i j ee c hi hj => ?_) (fun i j ee c hi hj => ?_)
        · obtain ⟨rfl, x, hx, rfl⟩ := key i j ee c hi hj
          have hi' := (List.getElem?_eq_some_iff.1 hx).1
          rw [show 0 + (i * 1 + 0) = i by omega, show i * 1 + 0 = i by omega, G.keep_at hi', Array.getD_eq_getD_getElem?, hcur i x hx]; rfl
        · obtain ⟨rfl, x, hx, rfl⟩ := key i j ee c hi hj
          rw [show i * 1 + 0 = i by omega]
          rw [Array.getD_eq_getD_getElem?, hcur i x hx]
          exact hr x (List.mem_of_getElem? hx) _
        · obtain ⟨rfl, x, hx, rfl⟩ := key i j ee c hi hj
          rw [show i * 1 + 0 = i by omega]
          rw [Array.getD_eq_getD_getElem?, hcur i x hx]
          exact h1 x
      rwa [List.length_map] at hr'

/-- The whole of an array of constant cells, each an element. -/
theorem os_sliceArr {P : Program} {Γ : Nat → PV} {A : List (Nat × PV)} {H : List Blk} {o : Oper} {K : PV → List Blk → Prop} {t : TypeId} {x : Operand} {cs : List PV} {m : Nat} (ho : o.op = .slice t x none none none) (ht : arOf P t = some (m, 1))
    (hx : ev Γ A x = .cptr cs) (hm : cs.length = m) (h0 : 0 < m) (hb : m ≤ 9223372036854775807) (hk : K (.vec (cs.map fun c => [c]) true) H) : OStep P Γ o A H K :=
  ostep_pure (by simp [ho]) _ hk fun w0 G w N a hs ha => by
    obtain ⟨te, i, hu, hinf, hsz⟩ := arOf_spec ht
    have h1 := ha.ev hs.glob x
    rw [hx] at h1
    generalize hax : a.eval x = v at h1
    cases h1 with
    | cptr _ _ b q vs r1 r2 r3 =>
      refine ⟨.slice (some ⟨b, q, none⟩) (cs.map fun c => [c]).length m, ?_, ?_⟩
      · have hbd : (Instr.sliceBounds false m m none none none).run P w = .ok (0, m, m) w := by simp [Instr.sliceBounds]
        have : ¬ (m = 0) := by omega
        simp [execOp, ho, Instr.sliceAt, Instr.sureAddr, run_under hu, hax, hbd, run_size hinf, hsz, hm, Fw.add_at]
      · have key : ∀ (i j : Nat) e c, (cs.map fun c => [c])[i]? = some e → e[j]? = some c → j = 0 ∧ cs[i]? = some c := fun i j e c hi hj => by
          rw [List.getElem?_map] at hi
          obtain ⟨x, hx, rfl⟩ := Option.map_eq_some_iff.1 hi
          cases j with
          | zero => simp at hj; exact ⟨rfl, hj ▸ hx⟩
          | succ j => simp at hj
        refine .vec _ _ true b q 1 m vs (by rw [List.length_map]; omega) (by rw [List.length_map]; omega) (fun _ => by rw [List.length_map]; omega) (fun e he => by
          obtain ⟨x, _, rfl⟩ := List.mem_map.1 he; rfl) (fun i j e c hi hj => ?_) (fun i j e c hi hj => ?_) (fun i j e c hi hj => ?_)
        · obtain ⟨rfl, h⟩ := key i j e c hi hj
          rw [show i * 1 + 0 = i by omega]; exact r1 i c h
        · obtain ⟨rfl, h⟩ := key i j e c hi hj
          rw [show i * 1 + 0 = i by omega]; exact r2 i c h
        · obtain ⟨rfl, h⟩ := key i j e c hi hj
          rw [show i * 1 + 0 = i by omega]; exact r3 i c h

end Go.Proofs.YtlbmlhpjibgepaaDoor.Fw

/- What chapter 3's functions come to: plain, without the program. -/
namespace Go.Proofs.YtlbmlhpjibgepaaDoor
set_option linter.unusedVariables false
set_option linter.unusedSimpArgs false
set_option maxRecDepth 100000
open Go.RowKit Fw

/-- The greatest. -/
def maxL (l : List Nat) : Nat := l.foldl max 0
theorem foldl_max (l : List Nat) (a : Nat) : l.foldl max a = max a (l.foldl max 0) := by
  induction l generalizing a with
  | nil => simp
  | cons x l ih => simp only [List.foldl_cons]; rw [ih, ih (max 0 x)]; omega
theorem maxL_cons (x : Nat) (l : List Nat) : maxL (x :: l) = max x (maxL l) := by
  unfold maxL
  rw [List.foldl_cons, foldl_max]; simp
theorem maxL_snoc (l : List Nat) (x : Nat) : maxL (l ++ [x]) = max (maxL l) x := by simp [maxL, List.foldl_append]
theorem maxL_le {l : List Nat} {n : Nat} (h : ∀ x ∈ l, x ≤ n) : maxL l ≤ n := by
  induction l with
  | nil => exact Nat.zero_le _
  | cons x l ih => rw [maxL_cons]; exact Nat.max_le.2 ⟨h x (by simp), ih fun y hy => h y (by simp [hy])⟩

namespace Tm
mutual
/-- How deep. -/
def dep : Tm → Nat
  | mk _ _ _ ks => deps ks + 1
def deps : List Tm → Nat
  | [] => 0
  | t :: ts => max (dep t) (deps ts)
end
theorem deps_max : ∀ l : List Tm, deps l = maxL (l.map dep)
  | [] => rfl
  | t :: l => by rw [deps, List.map_cons, maxL_cons, deps_max l]
theorem dep_eq (t : Tm) : t.dep = maxL (t.kids.map dep) + 1 := by cases t; rw [dep, deps_max]; rfl
theorem ind {P : Tm → Prop} (h : ∀ t, (∀ k ∈ t.kids, P k) → P t) : ∀ t, P t := by
  suffices ∀ n, ∀ t : Tm, SizeOf.sizeOf t < n → P t from fun t => this _ t (Nat.lt_succ_self _)
  intro n
  induction n with
  | zero => intro t ht; omega
  | succ n ih => exact fun t ht => h t fun k hk => ih k (by have := kids_lt hk; omega)
theorem le_sum {k : Tm} {l : List Tm} (h : k ∈ l) : k.w ≤ (l.map w).sum := by
  induction l with
  | nil => cases h
  | cons x l ih =>
    rw [List.map_cons, List.sum_cons]
    rcases List.mem_cons.1 h with rfl | h
    · omega
    · have := ih h; omega
theorem kid_w {t k : Tm} (h : k ∈ t.kids) : k.w + 1 ≤ t.w := by rw [w_eq t]; have := le_sum h; omega
theorem dep_w : ∀ t : Tm, t.dep ≤ t.w := by
  refine ind fun t ih => ?_
  rw [dep_eq, w_eq]
  have := maxL_le (l := t.kids.map dep) (n := (t.kids.map w).sum) fun x hx => by
    obtain ⟨k, hk, rfl⟩ := List.mem_map.1 hx
    have := ih k hk; have := le_sum hk; omega
  omega
theorem kids_w (t : Tm) : t.kids.length + 1 ≤ t.w := by
  rw [w_eq]
  have : ∀ l : List Tm, l.length ≤ (l.map w).sum := fun l => by
    induction l with
    | nil => simp
    | cons x l ih => rw [List.length_cons, List.map_cons, List.sum_cons]; have : 1 ≤ x.w := by rw [w_eq]; omega
                     omega
  have := this t.kids
  omega

/-- A term that binds a name. -/
def binder (t : Tm) : Bool := decide (t.kind = 3) || decide (t.kind = 5) || decide (t.kind = 9)
end Tm

/-- A letter; a digit. -/
def letB (c : UInt8) : Bool := (decide (97 ≤ c.toNat) && decide (c.toNat ≤ 122)) || (decide (65 ≤ c.toNat) && decide (c.toNat ≤ 90))
def digB (c : UInt8) : Bool := decide (48 ≤ c.toNat) && decide (c.toNat ≤ 57)
/-- A letter of a name, at its place. -/
def nmAt (i : Nat) (c : UInt8) : Bool := letB c && true || (digB c && decide (i ≠ 0))
/-- The first letters of a name. -/
def nmPre (s : List UInt8) (i : Nat) : Prop := ∀ j, j < i → ∀ c, s[j]? = some c → nmAt j c = true
def nameP (s : List UInt8) : Prop := 1 ≤ s.length ∧ s.length ≤ 16 ∧ nmPre s s.length
noncomputable instance (s : List UInt8) : Decidable (nameP s) := Classical.propDecidable _
theorem nmPre_succ {s : List UInt8} {i : Nat} {c : UInt8} (hc : s[i]? = some c) : nmPre s (i + 1) ↔ nmPre s i ∧ nmAt i c = true := by
  refine ⟨fun h => ⟨fun j hj => h j (by omega), h i (by omega) c hc⟩, fun ⟨h1, h2⟩ j hj d hd => ?_⟩
  by_cases e : j = i
  · subst e; rw [hc] at hd; cases hd; exact h2
  · exact h1 j (by omega) d hd

/-- The words that are no names. -/
def kws : List (List UInt8) := [[102, 117, 110], [108, 101, 116], [105, 110], [105, 102], [116, 104, 101, 110], [101, 108, 115, 101], [119, 104, 105, 108, 101], [100, 111], [114, 97, 105, 115, 101], [116, 114, 121], [119, 105, 116, 104], [105, 110, 112, 117, 116], [99, 101, 108, 108], [100, 101, 102]]
def opNs : List (List UInt8) := [[43], [45], [42], [60], [61]]
def kidsTab : List Int := [-1, 0, 0, 1, 2, 2, 3, 2, 1, 2, 1, 2, 2, 2]
def wordP (s : List UInt8) : Prop := nameP s ∧ ¬ s ∈ kws
noncomputable instance (s : List UInt8) : Decidable (wordP s) := inferInstanceAs (Decidable (_ ∧ _))

/-- How many kids a kind has. -/
def manyI (k : Int) : Int := if 1 ≤ k ∧ k < 14 then kidsTab.getD k.toNat 0 else -1

/-- The name of a term of a kind. -/
def nmOk (t : Tm) : Prop := if t.kind = 12 then t.name ∈ opNs else if t.kind = 2 ∨ t.binder = true then wordP t.name else t.name = []
noncomputable instance (t : Tm) : Decidable (nmOk t) := Classical.propDecidable _

def nodeP (t : Tm) : Prop := (1 ≤ t.kind ∧ t.kind < 14) ∧ (t.kids.length : Int) = kidsTab.getD t.kind.toNat 0 ∧ (t.kind ≠ 1 → t.n = 0) ∧ 0 ≤ t.n ∧ t.n < 2147483648 ∧ nmOk t
noncomputable instance (t : Tm) : Decidable (nodeP t) := Classical.propDecidable _

/-- All of a term's nodes may be. -/
inductive Nodes : Tm → Prop
  | mk (t : Tm) (h : nodeP t) (hk : ∀ k ∈ t.kids, Nodes k) : Nodes t
theorem Nodes.node {t : Tm} (h : Nodes t) : nodeP t := by cases h; assumption
theorem Nodes.kids {t : Tm} (h : Nodes t) : ∀ k ∈ t.kids, Nodes k := by cases h; assumption
noncomputable instance (t : Tm) : Decidable (Nodes t) := Classical.propDecidable _

/-- A term that may be. -/
def RightT (t : Tm) : Prop := t.dep ≤ 200 ∧ t.w ≤ 10000 ∧ Nodes t
noncomputable instance (t : Tm) : Decidable (RightT t) := Classical.propDecidable _

/-- A text in a list by their bytes, once. -/
def addT : List (List UInt8) → List UInt8 → List (List UInt8)
  | [], s => [s]
  | x :: l, s => if x < s then x :: addT l s else if x = s then x :: l else s :: x :: l

/-- Those that are added to some. -/
def addTs (out : List (List UInt8)) (b : Bool) (nm : List UInt8) : List (List UInt8) → List (List UInt8)
  | [] => out
  | x :: l => addTs (if !b || !decide (x = nm) then addT out x else out) b nm l

namespace Tm
mutual
/-- The names that are free in a term. -/
def free : Tm → List (List UInt8)
  | mk k s _ ks => frees ks (if k = 2 then [s] else []) (decide (k = 3) || decide (k = 5) || decide (k = 9)) s
/-- .. of what stands behind, added. -/
def frees : List Tm → List (List UInt8) → Bool → List UInt8 → List (List UInt8)
  | [], out, _, _ => out
  | t :: ts, out, b, s => frees ts (addTs out (b && ts.isEmpty) s (free t)) b s
end
theorem free_eq (t : Tm) : t.free = frees t.kids (if t.kind = 2 then [t.name] else []) t.binder t.name := by cases t; rw [free]; rfl
end Tm

end Go.Proofs.YtlbmlhpjibgepaaDoor

/- The contracts of what compares terms, and of what turns them into the document's. -/
namespace Go.Proofs.YtlbmlhpjibgepaaDoor
set_option linter.unusedVariables false
set_option linter.unusedSimpArgs false
set_option maxRecDepth 100000
open Go.RowKit Fw


theorem wrapN (n : Nat) (h : n < 9223372036854775808) : IntKind.i64.wrap (n : Int) = n := by
  unfold IntKind.wrap
  have hb : IntKind.i64.bits = 64 := rfl
  have hsg : IntKind.i64.signed = true := rfl
  simp only [hb, hsg, Bool.true_and, decide_eq_true_eq]
  have : (n : Int) % 2 ^ 64 = n := by omega
  rw [this, if_neg (by omega)]

/-- chancelref03.Same -/
theorem c18 (Γ : Nat → PV) : ∀ a b : Tm, Gives Tryd.prog Γ 18 [.agg a.enc, .agg b.enc] (.bool (decide (a = b))) := by
  suffices ∀ n, ∀ a, SizeOf.sizeOf a < n → ∀ b : Tm, Gives Tryd.prog Γ 18 [.agg a.enc, .agg b.enc] (.bool (decide (a = b))) from fun a b => this _ a (Nat.lt_succ_self _) b
  intro n
  induction n with
  | zero => intro a ha; omega
  | succ n ih =>
  intro a ha b
  refine fn_of_awp Tryd.func18 rfl (by simp [Tryd.f18]) rfl fun H => ?_
  refine awp_seq ?_
  -- region 0
  refine awp_run rfl (by simp only [fwA, ↓reduceIte, Nat.reduceAdd, Nat.reduceMul, Nat.reduceEqDiff, Nat.reduceLT, Nat.reduceLeDiff, reduceCtorEq] <;> rfl) ?_
  refine awp_seq ?_
  refine awp_seq ?_
  -- region 1
  by_cases h1 : a.kind = b.kind
  rotate_left
  · refine awp_run rfl (by simp only [fwA, ↓reduceIte, Nat.reduceAdd, Nat.reduceMul, Nat.reduceEqDiff, Nat.reduceLT, Nat.reduceLeDiff, reduceCtorEq, fl28_0, ti3, fl28_1, ti9, fl28_2, ti2, fl28_3, ti26, un26, Tm.fw, h1, decide_false, decide_true, Bool.not_false, Bool.not_true] <;> rfl) ?_
    refine awp_cond (by simp only [fwA, ↓reduceIte, Nat.reduceAdd, Nat.reduceMul, Nat.reduceEqDiff, Nat.reduceLT, Nat.reduceLeDiff, reduceCtorEq] <;> rfl) ?_
    refine awp_seq (awp_run rfl (by simp only [fwA, ↓reduceIte, Nat.reduceAdd, Nat.reduceMul, Nat.reduceEqDiff, Nat.reduceLT, Nat.reduceLeDiff, reduceCtorEq] <;> rfl) (awp_ret ?_))
    exact gives_end (.inl rfl) _ (by rw [decide_eq_false (fun e => h1 (by rw [e]))]; rfl)
  by_cases h2 : a.name = b.name
  rotate_left
  · refine awp_run rfl (by simp only [fwA, ↓reduceIte, Nat.reduceAdd, Nat.reduceMul, Nat.reduceEqDiff, Nat.reduceLT, Nat.reduceLeDiff, reduceCtorEq, fl28_0, ti3, fl28_1, ti9, fl28_2, ti2, fl28_3, ti26, un26, Tm.fw, h1, h2, decide_false, decide_true, Bool.not_false, Bool.not_true] <;> rfl) ?_
    refine awp_cond (by simp only [fwA, ↓reduceIte, Nat.reduceAdd, Nat.reduceMul, Nat.reduceEqDiff, Nat.reduceLT, Nat.reduceLeDiff, reduceCtorEq] <;> rfl) ?_
    refine awp_seq (awp_run rfl (by simp only [fwA, ↓reduceIte, Nat.reduceAdd, Nat.reduceMul, Nat.reduceEqDiff, Nat.reduceLT, Nat.reduceLeDiff, reduceCtorEq] <;> rfl) (awp_ret ?_))
    exact gives_end (.inl rfl) _ (by rw [decide_eq_false (fun e => h2 (by rw [e]))]; rfl)
  by_cases h3 : a.n = b.n
  rotate_left
  · refine awp_run rfl (by simp only [fwA, ↓reduceIte, Nat.reduceAdd, Nat.reduceMul, Nat.reduceEqDiff, Nat.reduceLT, Nat.reduceLeDiff, reduceCtorEq, fl28_0, ti3, fl28_1, ti9, fl28_2, ti2, fl28_3, ti26, un26, Tm.fw, h1, h2, h3, decide_false, decide_true, Bool.not_false, Bool.not_true] <;> rfl) ?_
    refine awp_cond (by simp only [fwA, ↓reduceIte, Nat.reduceAdd, Nat.reduceMul, Nat.reduceEqDiff, Nat.reduceLT, Nat.reduceLeDiff, reduceCtorEq] <;> rfl) ?_
    refine awp_seq (awp_run rfl (by simp only [fwA, ↓reduceIte, Nat.reduceAdd, Nat.reduceMul, Nat.reduceEqDiff, Nat.reduceLT, Nat.reduceLeDiff, reduceCtorEq] <;> rfl) (awp_ret ?_))
    exact gives_end (.inl rfl) _ (by rw [decide_eq_false (fun e => h3 (by rw [e]))]; rfl)
  by_cases h4 : (a.kids.length : Int) = b.kids.length
  rotate_left
  · refine awp_run rfl (by simp only [fwA, ↓reduceIte, Nat.reduceAdd, Nat.reduceMul, Nat.reduceEqDiff, Nat.reduceLT, Nat.reduceLeDiff, reduceCtorEq, fl28_0, ti3, fl28_1, ti9, fl28_2, ti2, fl28_3, ti26, un26, Tm.fw, h1, h2, h3, h4, List.length_map, decide_false, decide_true, Bool.not_false, Bool.not_true] <;> rfl) ?_
    refine awp_cond (by simp only [fwA, ↓reduceIte, Nat.reduceAdd, Nat.reduceMul, Nat.reduceEqDiff, Nat.reduceLT, Nat.reduceLeDiff, reduceCtorEq] <;> rfl) ?_
    refine awp_seq (awp_run rfl (by simp only [fwA, ↓reduceIte, Nat.reduceAdd, Nat.reduceMul, Nat.reduceEqDiff, Nat.reduceLT, Nat.reduceLeDiff, reduceCtorEq] <;> rfl) (awp_ret ?_))
    exact gives_end (.inl rfl) _ (by rw [decide_eq_false (fun e => h4 (by rw [e]))]; rfl)
  refine awp_run rfl (by simp only [fwA, ↓reduceIte, Nat.reduceAdd, Nat.reduceMul, Nat.reduceEqDiff, Nat.reduceLT, Nat.reduceLeDiff, reduceCtorEq, fl28_0, ti3, fl28_1, ti9, fl28_2, ti2, fl28_3, ti26, un26, Tm.fw, h1, h2, h3, h4, List.length_map, decide_true, Bool.not_true] <;> rfl) ?_
  refine awp_cond (by simp only [fwA, ↓reduceIte, Nat.reduceAdd, Nat.reduceMul, Nat.reduceEqDiff, Nat.reduceLT, Nat.reduceLeDiff, reduceCtorEq] <;> rfl) (awp_skip ?_)
  refine awp_seq ?_
  refine awp_seq ?_
  -- region 3
  refine awp_run rfl (by simp only [fwA, ↓reduceIte, Nat.reduceAdd, Nat.reduceMul, Nat.reduceEqDiff, Nat.reduceLT, Nat.reduceLeDiff, reduceCtorEq] <;> rfl) ?_
  have h4' : a.kids.length = b.kids.length := by omega
  refine awp_block ?_
  refine awp_for [2, 3, 5] (fun i : Nat => [.ptr H.length 0, .ptr (H.length + 1) 0, .int .i64 (i : Int)]) (fun _ => H ++ [.box a.enc, .box b.enc]) (fun i => a.kids.length - i)
    (fun i => i ≤ a.kids.length ∧ a.kids.take i = b.kids.take i) 0 rfl rfl ⟨Nat.zero_le _, rfl⟩ fun i hi => ?_
  refine awp_seq ?_
  refine awp_seq ?_
  -- region 4
  refine awp_run rfl (by simp only [fwA, ↓reduceIte, Nat.reduceAdd, Nat.reduceMul, Nat.reduceEqDiff, Nat.reduceLT, Nat.reduceLeDiff, reduceCtorEq, fl28_3, ti26, un26, Tm.fw, List.length_map] <;> rfl) ?_
  refine awp_vlen 36 rfl fun hlen => ?_
  rw [List.length_map] at hlen
  refine awp_cond (by simp only [fwA, ↓reduceIte, Nat.reduceAdd, Nat.reduceMul, Nat.reduceEqDiff, Nat.reduceLT, Nat.reduceLeDiff, reduceCtorEq] <;> rfl) ?_
  by_cases hc : (i : Int) < a.kids.length
  rotate_left
  · simp only [hc, decide_false, Bool.false_eq_true, ↓reduceIte]
    refine awp_exit ?_
    have hi' : i = a.kids.length := by omega
    refine awp_seq (awp_run rfl (by simp only [fwA, ↓reduceIte, Nat.reduceAdd, Nat.reduceMul, Nat.reduceEqDiff, Nat.reduceLT, Nat.reduceLeDiff, reduceCtorEq] <;> rfl) (awp_ret ?_))
    have e : a = b := Tm.ext h1 h2 h3 (by
      have := hi.2
      rwa [hi', List.take_length, h4', List.take_length] at this)
    exact gives_end (.inl rfl) _ (by rw [decide_eq_true e]; rfl)
  simp only [hc, decide_true, ↓reduceIte]
  refine awp_skip ?_
  refine awp_seq ?_
  refine awp_block ?_
  refine awp_seq ?_
  have hia : i < a.kids.length := by omega
  have ga : a.kids[i]? = some a.kids[i] := List.getElem?_eq_getElem hia
  have gb : b.kids[i]? = some (b.kids[i]'(by omega)) := List.getElem?_eq_getElem (by omega)
  -- region 6 drawn
  refine awp_drawn [0, 1, 0, 0, 1, 0, 1, 0, 0, 1, 0, 0] [0, 1, 0, 7, 15, 0, 32, 0, 224, 480, 1023, 2047] mixed rfl (by kernel_rfl) ?_
  refine dops_run 10 (by simp only [fwA, ↓reduceIte, Nat.reduceAdd, Nat.reduceMul, Nat.reduceEqDiff, Nat.reduceLT, Nat.reduceLeDiff, reduceCtorEq, fl28_3, ti26, el26, ti28, Tm.fw, List.getElem?_map, ga, gb, Option.map_some, Int.natCast_nonneg] <;> rfl) ?_
  refine dops_fn rfl rfl rfl rfl en18 (ih _ (by have := Tm.kids_lt (List.getElem_mem hia); omega) _) ?_
  refine dops_run 1 (by simp only [fwA, ↓reduceIte, Nat.reduceAdd, Nat.reduceMul, Nat.reduceEqDiff, Nat.reduceLT, Nat.reduceLeDiff, reduceCtorEq] <;> rfl) ?_
  refine dops_end ?_
  refine awp_cond (by simp only [fwA, ↓reduceIte, Nat.reduceAdd, Nat.reduceMul, Nat.reduceEqDiff, Nat.reduceLT, Nat.reduceLeDiff, reduceCtorEq] <;> rfl) ?_
  by_cases hk : a.kids[i] = b.kids[i]'(by omega)
  rotate_left
  · simp only [hk, decide_false, Bool.not_false, ↓reduceIte]
    refine awp_seq (awp_run rfl (by simp only [fwA, ↓reduceIte, Nat.reduceAdd, Nat.reduceMul, Nat.reduceEqDiff, Nat.reduceLT, Nat.reduceLeDiff, reduceCtorEq] <;> rfl) (awp_ret ?_))
    exact gives_end (.inl rfl) _ (by rw [decide_eq_false (fun e => hk (by subst e; rfl))]; rfl)
  simp only [hk, decide_true, Bool.not_true, Bool.false_eq_true, ↓reduceIte]
  refine awp_skip ?_
  -- region 5
  refine awp_run rfl (by simp only [fwA, ↓reduceIte, Nat.reduceAdd, Nat.reduceMul, Nat.reduceEqDiff, Nat.reduceLT, Nat.reduceLeDiff, reduceCtorEq] <;> rfl) ?_
  exact ⟨i + 1, by omega, ⟨by omega, by rw [List.take_add_one, List.take_add_one, hi.2, ga, gb, hk]⟩, by rw [wrapS i (by omega)]; rfl, rfl, rfl⟩



/-- slices.EqualFunc, of terms -/
theorem c32 (Γ : Nat → PV) (f : Nat) (he : Enters Tryd.prog f) (xs ys : List Tm) (h : ∀ x ∈ xs, ∀ y : Tm, Gives Tryd.prog Γ f [.agg x.enc, .agg y.enc] (.bool (decide (x = y)))) :
    Gives Tryd.prog Γ 32 [.vec (xs.map Tm.enc) false, .vec (ys.map Tm.enc) false, .func (.func f) [] []] (.bool (decide (xs = ys))) := by
  refine fn_of_awp Tryd.func32 rfl (by simp [Tryd.f32]) rfl fun H => awp_bd fun hbd => ?_
  refine awp_seq ?_
  -- region 0
  refine awp_run rfl (by simp only [fwA, ↓reduceIte, Nat.reduceAdd, Nat.reduceMul, Nat.reduceEqDiff, Nat.reduceLT, Nat.reduceLeDiff, reduceCtorEq] <;> rfl) ?_
  refine awp_vlen 0 rfl fun hlen => ?_
  rw [List.length_map] at hlen
  refine awp_seq ?_
  refine awp_seq ?_
  -- region 1
  refine awp_run rfl (by simp only [fwA, ↓reduceIte, Nat.reduceAdd, Nat.reduceMul, Nat.reduceEqDiff, Nat.reduceLT, Nat.reduceLeDiff, reduceCtorEq, un22, List.length_map] <;> rfl) ?_
  refine awp_cond (by simp only [fwA, ↓reduceIte, Nat.reduceAdd, Nat.reduceMul, Nat.reduceEqDiff, Nat.reduceLT, Nat.reduceLeDiff, reduceCtorEq] <;> rfl) ?_
  by_cases hl : (xs.length : Int) = ys.length
  rotate_left
  · simp only [hl, decide_false, Bool.not_false, ↓reduceIte]
    refine awp_seq (awp_run rfl (by simp only [fwA, ↓reduceIte, Nat.reduceAdd, Nat.reduceMul, Nat.reduceEqDiff, Nat.reduceLT, Nat.reduceLeDiff, reduceCtorEq] <;> rfl) (awp_ret ?_))
    exact gives_end0 (.inl rfl) (by rw [decide_eq_false (fun e => hl (by rw [e]))]; rfl)
  simp only [hl, decide_true, Bool.not_true, Bool.false_eq_true, ↓reduceIte]
  refine awp_skip ?_
  have hl' : xs.length = ys.length := by omega
  refine awp_seq ?_
  refine awp_seq ?_
  -- region 3
  refine awp_run rfl (by simp only [fwA, ↓reduceIte, Nat.reduceAdd, Nat.reduceMul, Nat.reduceEqDiff, Nat.reduceLT, Nat.reduceLeDiff, reduceCtorEq, un22, List.length_map] <;> rfl) ?_
  refine awp_block ?_
  refine awp_forG [1, 2, 15, 16, 17] (fun i : Nat => [.vec (ys.map Tm.enc) false, .func (.func f) [] [], .vec (xs.map Tm.enc) false, .int .i64 xs.length, .int .i64 (i : Int)]) (fun _ => H) (fun i => xs.length - i)
    (fun i => i ≤ xs.length ∧ xs.take i = ys.take i) 0 rfl rfl ⟨Nat.zero_le _, rfl⟩ (fun i _ => ⟨hbd, rfl⟩) (fun i _ b hb => by cases hb) fun i hi => ?_
  refine awp_seq ?_
  -- region 4
  refine awp_run rfl (by simp only [fwA, ↓reduceIte, Nat.reduceAdd, Nat.reduceMul, Nat.reduceEqDiff, Nat.reduceLT, Nat.reduceLeDiff, reduceCtorEq] <;> rfl) ?_
  refine awp_seq ?_
  refine awp_cond (by simp only [fwA, ↓reduceIte, Nat.reduceAdd, Nat.reduceMul, Nat.reduceEqDiff, Nat.reduceLT, Nat.reduceLeDiff, reduceCtorEq] <;> rfl) ?_
  by_cases hc : (i : Int) < xs.length
  rotate_left
  · simp only [hc, decide_false, Bool.false_eq_true, ↓reduceIte]
    refine awp_exit ?_
    have hi' : i = xs.length := by omega
    refine awp_seq (awp_run rfl (by simp only [fwA, ↓reduceIte, Nat.reduceAdd, Nat.reduceMul, Nat.reduceEqDiff, Nat.reduceLT, Nat.reduceLeDiff, reduceCtorEq] <;> rfl) (awp_ret ?_))
    have e : xs = ys := by
      have := hi.2
      rwa [hi', List.take_length, hl', List.take_length] at this
    exact gives_end0 (.inl rfl) (by rw [decide_eq_true e]; rfl)
  simp only [hc, decide_true, ↓reduceIte]
  refine awp_skip ?_
  have hix : i < xs.length := by omega
  have gx : xs[i]? = some xs[i] := List.getElem?_eq_getElem hix
  have gy : ys[i]? = some (ys[i]'(by omega)) := List.getElem?_eq_getElem (by omega)
  refine awp_seq ?_
  refine awp_block ?_
  refine awp_seq ?_
  -- region 5
  refine awp_run rfl (by simp only [fwA, ↓reduceIte, Nat.reduceAdd, Nat.reduceMul, Nat.reduceEqDiff, Nat.reduceLT, Nat.reduceLeDiff, reduceCtorEq, el22, ti24, Tm.fw, List.getElem?_map, gx, Option.map_some, Int.natCast_nonneg] <;> rfl) ?_
  refine awp_seq ?_
  -- region 6
  refine awp_run rfl (by simp only [fwA, ↓reduceIte, Nat.reduceAdd, Nat.reduceMul, Nat.reduceEqDiff, Nat.reduceLT, Nat.reduceLeDiff, reduceCtorEq, el22, ti24, Tm.fw, List.getElem?_map, gy, Option.map_some, Int.natCast_nonneg] <;> rfl) ?_
  refine awp_seq ?_
  -- region 7
  refine awp_region rfl ?_
  refine aops_run 3 (by simp only [fwA, ↓reduceIte, Nat.reduceAdd, Nat.reduceMul, Nat.reduceEqDiff, Nat.reduceLT, Nat.reduceLeDiff, reduceCtorEq, ti24, Tm.fw] <;> rfl) ?_
  refine aops_fn rfl rfl rfl he (h _ (List.getElem_mem hix) _) ?_
  refine aops_run 1 (by simp only [fwA, ↓reduceIte, Nat.reduceAdd, Nat.reduceMul, Nat.reduceEqDiff, Nat.reduceLT, Nat.reduceLeDiff, reduceCtorEq] <;> rfl) ?_
  refine awp_cond (by simp only [fwA, ↓reduceIte, Nat.reduceAdd, Nat.reduceMul, Nat.reduceEqDiff, Nat.reduceLT, Nat.reduceLeDiff, reduceCtorEq] <;> rfl) ?_
  by_cases hk : xs[i] = ys[i]'(by omega)
  rotate_left
  · simp only [hk, decide_false, Bool.not_false, ↓reduceIte]
    refine awp_seq (awp_run rfl (by simp only [fwA, ↓reduceIte, Nat.reduceAdd, Nat.reduceMul, Nat.reduceEqDiff, Nat.reduceLT, Nat.reduceLeDiff, reduceCtorEq] <;> rfl) (awp_ret ?_))
    exact gives_end (.inl rfl) _ (by rw [decide_eq_false (fun e => hk (by subst e; rfl))]; rfl)
  simp only [hk, decide_true, Bool.not_true, Bool.false_eq_true, ↓reduceIte]
  refine awp_skip ?_
  -- region 9
  refine awp_run rfl (by simp only [fwA, ↓reduceIte, Nat.reduceAdd, Nat.reduceMul, Nat.reduceEqDiff, Nat.reduceLT, Nat.reduceLeDiff, reduceCtorEq] <;> rfl) ?_
  exact ⟨i + 1, _, by omega, ⟨by omega, by rw [List.take_add_one, List.take_add_one, hi.2, gx, gy, hk]⟩, by rw [wrapS i (by omega)]; rfl, rfl, rfl, Nat.le_refl _⟩

/-- term.Same -/
theorem c17 (Γ : Nat → PV) : ∀ a b : Tm, Gives Tryd.prog Γ 17 [.agg a.enc, .agg b.enc] (.bool (decide (a = b))) := by
  suffices ∀ n, ∀ a, SizeOf.sizeOf a < n → ∀ b : Tm, Gives Tryd.prog Γ 17 [.agg a.enc, .agg b.enc] (.bool (decide (a = b))) from fun a b => this _ a (Nat.lt_succ_self _) b
  intro n
  induction n with
  | zero => intro a ha; omega
  | succ n ih =>
  intro a ha b
  refine fn_of_awp Tryd.func17 rfl (by simp [Tryd.f17]) rfl fun H => ?_
  refine awp_seq ?_
  -- region 0
  refine awp_run rfl (by simp only [fwA, ↓reduceIte, Nat.reduceAdd, Nat.reduceMul, Nat.reduceEqDiff, Nat.reduceLT, Nat.reduceLeDiff, reduceCtorEq] <;> rfl) ?_
  refine awp_seq ?_
  -- region 1
  by_cases h1 : a.kind = b.kind
  rotate_left
  · refine awp_region rfl (aops_run 24 (by simp only [fwA, ↓reduceIte, Nat.reduceAdd, Nat.reduceMul, Nat.reduceEqDiff, Nat.reduceLT, Nat.reduceLeDiff, reduceCtorEq, fl24_0, ti3, fl24_1, ti9, fl24_2, ti2, fl24_3, ti22, Tm.fw, h1, decide_false, decide_true] <;> rfl) (aops_run 3 (by simp only [fwA, ↓reduceIte, Nat.reduceAdd, Nat.reduceMul, Nat.reduceEqDiff, Nat.reduceLT, Nat.reduceLeDiff, reduceCtorEq, fl24_0] <;> rfl) (awp_ret ?_)))
    exact gives_end (.inl rfl) _ (by rw [decide_eq_false (fun e => h1 (by rw [e]))]; rfl)
  by_cases h2 : a.name = b.name
  rotate_left
  · refine awp_region rfl (aops_run 24 (by simp only [fwA, ↓reduceIte, Nat.reduceAdd, Nat.reduceMul, Nat.reduceEqDiff, Nat.reduceLT, Nat.reduceLeDiff, reduceCtorEq, fl24_0, ti3, fl24_1, ti9, fl24_2, ti2, fl24_3, ti22, Tm.fw, h1, h2, decide_false, decide_true] <;> rfl) (aops_run 3 (by simp only [fwA, ↓reduceIte, Nat.reduceAdd, Nat.reduceMul, Nat.reduceEqDiff, Nat.reduceLT, Nat.reduceLeDiff, reduceCtorEq, fl24_0] <;> rfl) (awp_ret ?_)))
    exact gives_end (.inl rfl) _ (by rw [decide_eq_false (fun e => h2 (by rw [e]))]; rfl)
  by_cases h3 : a.n = b.n
  rotate_left
  · refine awp_region rfl (aops_run 24 (by simp only [fwA, ↓reduceIte, Nat.reduceAdd, Nat.reduceMul, Nat.reduceEqDiff, Nat.reduceLT, Nat.reduceLeDiff, reduceCtorEq, fl24_0, ti3, fl24_1, ti9, fl24_2, ti2, fl24_3, ti22, Tm.fw, h1, h2, h3, decide_false, decide_true] <;> rfl) (aops_run 3 (by simp only [fwA, ↓reduceIte, Nat.reduceAdd, Nat.reduceMul, Nat.reduceEqDiff, Nat.reduceLT, Nat.reduceLeDiff, reduceCtorEq, fl24_0] <;> rfl) (awp_ret ?_)))
    exact gives_end (.inl rfl) _ (by rw [decide_eq_false (fun e => h3 (by rw [e]))]; rfl)
  refine awp_region rfl ?_
  refine aops_run 24 (by simp only [fwA, ↓reduceIte, Nat.reduceAdd, Nat.reduceMul, Nat.reduceEqDiff, Nat.reduceLT, Nat.reduceLeDiff, reduceCtorEq, fl24_0, ti3, fl24_1, ti9, fl24_2, ti2, fl24_3, ti22, Tm.fw, h1, h2, h3, decide_true] <;> rfl) ?_
  refine aops_fnIf rfl rfl rfl rfl rfl en32 (c32 Γ 17 en17 a.kids b.kids (fun x hx y => ih x (by have := Tm.kids_lt hx; omega) y)) ?_
  refine aops_run 2 (by simp only [fwA, ↓reduceIte, Nat.reduceAdd, Nat.reduceMul, Nat.reduceEqDiff, Nat.reduceLT, Nat.reduceLeDiff, reduceCtorEq] <;> rfl) ?_
  refine awp_ret ?_
  refine gives_end (.inl rfl) _ ?_
  by_cases h4 : a.kids = b.kids
  · rw [decide_eq_true (Tm.ext h1 h2 h3 h4)]; simp [ares, aresL, ares1, alook, Tryd.f17, h4]
  · have e1 : decide (a = b) = false := decide_eq_false (fun e => h4 (by rw [e]))
    rw [e1]; simp [ares, aresL, ares1, alook, Tryd.f17, h4]



/-- chancellaw18.refTerm -/
theorem c10 (Γ : Nat → PV) : ∀ a : Tm, a.Ok → Gives Tryd.prog Γ 10 [.agg a.enc] (.agg a.enc) := by
  suffices ∀ n, ∀ a : Tm, SizeOf.sizeOf a < n → a.Ok → Gives Tryd.prog Γ 10 [.agg a.enc] (.agg a.enc) from fun a => this _ a (Nat.lt_succ_self _)
  intro n
  induction n with
  | zero => intro a ha; omega
  | succ n ih =>
  intro a ha hok
  obtain ⟨_, hk2, hk3⟩ := hok
  refine fn_of_awp Tryd.func10 rfl (by simp [Tryd.f10]) (by simp only [fwA, ↓reduceIte, Nat.reduceAdd, Nat.reduceMul, Nat.reduceEqDiff, Nat.reduceLT, Nat.reduceLeDiff, reduceCtorEq, Tm.fw]) fun H => ?_
  refine awp_seq ?_
  -- region 0
  refine awp_run rfl (by simp only [fwA, ↓reduceIte, Nat.reduceAdd, Nat.reduceMul, Nat.reduceEqDiff, Nat.reduceLT, Nat.reduceLeDiff, reduceCtorEq, ti28] <;> rfl) ?_
  refine awp_seq ?_
  -- region 1
  refine awp_run rfl (by simp only [fwA, ↓reduceIte, Nat.reduceAdd, Nat.reduceMul, Nat.reduceEqDiff, Nat.reduceLT, Nat.reduceLeDiff, reduceCtorEq, fl24_0, ti3, fl24_1, ti9, fl24_2, ti2, ti28, pl28, Tm.fw] <;> rfl) ?_
  refine awp_seq ?_
  refine awp_seq ?_
  -- region 2
  refine awp_run rfl (by simp only [fwA, ↓reduceIte, Nat.reduceAdd, Nat.reduceMul, Nat.reduceEqDiff, Nat.reduceLT, Nat.reduceLeDiff, reduceCtorEq] <;> rfl) ?_
  refine awp_told (told_adoptBox (H.length + 2) 3 4 (by decide) (by simp only [fwA, ↓reduceIte, Nat.reduceAdd, Nat.reduceMul, Nat.reduceEqDiff, Nat.reduceLT, Nat.reduceLeDiff, reduceCtorEq] <;> rfl) rfl) ?_
  refine awp_block ?_
  refine awp_for [1, 2, 3, 4] (fun i : Nat => [.ptr H.length 0, .ptr (H.length + 1) 0, .ptr (H.length + 2) 0, .int .i64 (i : Int)])
    (fun i => H ++ [.box a.enc, .box [.int .i64 0, .str [], .int .i64 0, .vec [] true], .box [.int .i64 a.kind, .str a.name, .int .i64 a.n, .row (H.length + 3) 0 i 4], .row 4 ((a.kids.take i).map Tm.enc).flatten])
    (fun i => a.kids.length - i) (fun i => i ≤ a.kids.length) 0 rfl (by simp only [fwA, ↓reduceIte, Nat.reduceAdd, Nat.reduceMul, Nat.reduceEqDiff, Nat.reduceLT, Nat.reduceLeDiff, reduceCtorEq] <;> rfl) (Nat.zero_le _) fun i hi => ?_
  have hti : (a.kids.take i).length = i := by simp; omega
  refine awp_seq ?_
  refine awp_seq ?_
  -- region 3
  refine awp_run rfl (by simp only [fwA, ↓reduceIte, Nat.reduceAdd, Nat.reduceMul, Nat.reduceEqDiff, Nat.reduceLT, Nat.reduceLeDiff, reduceCtorEq, fl24_3, ti22, un22, Tm.fw, List.length_map] <;> rfl) ?_
  refine awp_vlen 14 rfl fun hlen => ?_
  rw [List.length_map] at hlen
  refine awp_cond (by simp only [fwA, ↓reduceIte, Nat.reduceAdd, Nat.reduceMul, Nat.reduceEqDiff, Nat.reduceLT, Nat.reduceLeDiff, reduceCtorEq] <;> rfl) ?_
  by_cases hc : (i : Int) < a.kids.length
  rotate_left
  · simp only [hc, decide_false, Bool.false_eq_true, ↓reduceIte]
    refine awp_exit ?_
    have hi' : i = a.kids.length := by omega
    refine awp_told (told_freezeAt H _ 3 (C := ((a.kids.take i).map Tm.enc).flatten) rfl (flat_bd (fun t => by simp only [Tm.fw]) _)) ?_
    have hl : (((a.kids.take i).map Tm.enc).flatten).length = i * 4 := by rw [flat_len Tm.enc_len, hti]
    have hch : chunk 4 i (((a.kids.take i).map Tm.enc).flatten) = (a.kids.take i).map Tm.enc := by
      have := flat_chunk Tm.enc_len (a.kids.take i)
      rwa [hti] at this
    refine awp_seq (awp_run rfl (by simp only [fwA, ↓reduceIte, Nat.reduceAdd, Nat.reduceMul, Nat.reduceEqDiff, Nat.reduceLT, Nat.reduceLeDiff, reduceCtorEq, ti28, hl, hch] <;> rfl) (awp_ret ?_))
    refine gives_end (.inl rfl) _ ?_
    rw [Tm.enc_eq]
    simp only [fwA, ↓reduceIte, Nat.reduceAdd, Nat.reduceMul, Nat.reduceEqDiff, Nat.reduceLT, Nat.reduceLeDiff, reduceCtorEq, ares, aresL, ares1, Tryd.f10, ti28, hi', List.take_length]
  simp only [hc, decide_true, ↓reduceIte]
  refine awp_skip ?_
  have hia : i < a.kids.length := by omega
  have ga : a.kids[i]? = some a.kids[i] := List.getElem?_eq_getElem hia
  refine awp_seq ?_
  refine awp_block ?_
  -- region 5 drawn
  refine awp_drawn [0, 1, 0, 1, 0, 0, 1, 0, 0, 2, 0, 2] [0, 1, 0, 4, 0, 28, 60, 124, 252, 511, 1023, 2047] mixed rfl (by kernel_rfl) ?_
  refine dops_run 7 (by simp only [fwA, ↓reduceIte, Nat.reduceAdd, Nat.reduceMul, Nat.reduceEqDiff, Nat.reduceLT, Nat.reduceLeDiff, reduceCtorEq, fl28_3, ti26, fl24_3, ti22, el22, ti24, Tm.fw, List.getElem?_map, ga, Option.map_some, Int.natCast_nonneg] <;> rfl) ?_
  refine dops_fn rfl rfl rfl rfl en10 (ih _ (by have := Tm.kids_lt (List.getElem_mem hia); omega) (hk3 _ (List.getElem_mem hia))) ?_
  refine dops_run 1 (by simp only [fwA, ↓reduceIte, Nat.reduceAdd, Nat.reduceMul, Nat.reduceEqDiff, Nat.reduceLT, Nat.reduceLeDiff, reduceCtorEq, un26, ti28, Tm.fw] <;> rfl) ?_
  refine dops_appendR rfl rfl rfl un26 ti28 un26 (.inl ⟨_, rfl⟩) rfl (by simp only [fwA, ↓reduceIte, Nat.reduceAdd, Nat.reduceMul, Nat.reduceEqDiff, Nat.reduceLT, Nat.reduceLeDiff, reduceCtorEq] <;> rfl) (by rw [flat_len Tm.enc_len, hti]; exact (Nat.zero_add _).symm) rfl
    (fun es f h e he => by
      simp only [fwA, ↓reduceIte, Nat.reduceAdd, Nat.reduceMul, Nat.reduceEqDiff, Nat.reduceLT, Nat.reduceLeDiff, reduceCtorEq, PV.vec.injEq] at h
      obtain ⟨rfl, rfl⟩ := h
      simp only [List.mem_singleton] at he
      subst he; exact Tm.enc_len _) rfl (by unfold reachBytes at hk2; show (i + 1) * 56 ≤ _; omega) (by show i + 1 ≤ _; omega) ?_
  refine dops_run 2 (by simp only [fwA, ↓reduceIte, Nat.reduceAdd, Nat.reduceMul, Nat.reduceEqDiff, Nat.reduceLT, Nat.reduceLeDiff, reduceCtorEq, fl28_3, ti26] <;> rfl) ?_
  refine dops_end ?_
  -- region 4
  refine awp_run rfl (by simp only [fwA, ↓reduceIte, Nat.reduceAdd, Nat.reduceMul, Nat.reduceEqDiff, Nat.reduceLT, Nat.reduceLeDiff, reduceCtorEq] <;> rfl) ?_
  refine ⟨i + 1, by omega, by omega, by rw [wrapS i (by omega)]; rfl, ?_, rfl⟩
  simp only [flatten_enc Tm.enc _ _ _ ga, List.flatten_cons, List.flatten_nil, List.append_nil]


end Go.Proofs.YtlbmlhpjibgepaaDoor

/- The contracts of sizes, depths, binders, and of what makes small terms. -/
namespace Go.Proofs.YtlbmlhpjibgepaaDoor
set_option linter.unusedVariables false
set_option linter.unusedSimpArgs false
set_option maxRecDepth 100000
open Go.RowKit Fw

theorem sum_take (l : List Tm) {i : Nat} (h : i < l.length) : ((l.take (i + 1)).map Tm.w).sum = ((l.take i).map Tm.w).sum + l[i].w := by
  rw [List.take_add_one, List.getElem?_eq_getElem h, List.map_append, List.sum_append]
  simp only [Option.toList_some, List.map_cons, List.map_nil, List.sum_cons, List.sum_nil, Nat.add_zero]
theorem sum_le (l : List Tm) (i : Nat) : ((l.take i).map Tm.w).sum ≤ (l.map Tm.w).sum := by
  conv => rhs; rw [← List.take_append_drop i l, List.map_append, List.sum_append]
  omega
theorem max_take (l : List Tm) {i : Nat} (h : i < l.length) : maxL ((l.take (i + 1)).map Tm.dep) = max (maxL ((l.take i).map Tm.dep)) l[i].dep := by
  rw [List.take_add_one, List.getElem?_eq_getElem h, List.map_append]
  exact maxL_snoc _ _
theorem max_of (a b : Nat) : (if (a : Int) < b then (b : Int) else (a : Int)) = ((max a b : Nat) : Int) := by
  split <;> omega

/-- term.Size -/
theorem c11 (Γ : Nat → PV) : ∀ a : Tm, a.w ≤ 4611686018427387904 → Gives Tryd.prog Γ 11 [.agg a.enc] (.int .i64 a.w) := by
  refine Tm.ind fun a ih hw => ?_
  have hwe := Tm.w_eq a
  have hdw := Tm.dep_w a
  have hkw := Tm.kids_w a
  refine fn_of_awp Tryd.func11 rfl (by simp [Tryd.f11]) rfl fun H => ?_
  refine awp_seq ?_
  refine awp_run rfl (by simp only [fwA, ↓reduceIte, Nat.reduceAdd, Nat.reduceMul, Nat.reduceEqDiff, Nat.reduceLT, Nat.reduceLeDiff, reduceCtorEq, Tm.fw] <;> rfl) ?_
  refine awp_seq ?_
  refine awp_run rfl (by simp only [fwA, ↓reduceIte, Nat.reduceAdd, Nat.reduceMul, Nat.reduceEqDiff, Nat.reduceLT, Nat.reduceLeDiff, reduceCtorEq] <;> rfl) ?_
  refine awp_seq ?_
  refine awp_seq ?_
  refine awp_run rfl (by simp only [fwA, ↓reduceIte, Nat.reduceAdd, Nat.reduceMul, Nat.reduceEqDiff, Nat.reduceLT, Nat.reduceLeDiff, reduceCtorEq, fl24_3, ti22, un22, el22, ti24, Tm.fw, List.length_map] <;> rfl) ?_
  refine awp_bd fun hbd => ?_
  refine awp_block ?_
  refine awp_forG [3, 7, 8, 9] (fun i : Nat => [.int .i64 ((((a.kids.take i).map Tm.w).sum + 1 : Nat) : Int), .vec (a.kids.map Tm.enc) false, .int .i64 a.kids.length, .int .i64 i]) (fun _ => H ++ [.box a.enc]) (fun i => a.kids.length - i) (fun i => i ≤ a.kids.length) 0 (by simp [alook, aput, ev, maxL]) rfl (Nat.zero_le _) (fun i _ => ⟨hbd, by simp [PV.bdL, PV.bd]⟩) (fun i _ b hb => by cases hb) fun i hi => ?_
  refine awp_seq ?_
  refine awp_run rfl (by simp only [fwA, ↓reduceIte, Nat.reduceAdd, Nat.reduceMul, Nat.reduceEqDiff, Nat.reduceLT, Nat.reduceLeDiff, reduceCtorEq] <;> rfl) ?_
  refine awp_seq ?_
  refine awp_cond (by simp only [fwA, ↓reduceIte, Nat.reduceAdd, Nat.reduceMul, Nat.reduceEqDiff, Nat.reduceLT, Nat.reduceLeDiff, reduceCtorEq] <;> rfl) ?_
  by_cases hc : (i : Int) < a.kids.length
  · simp only [hc, decide_true, ↓reduceIte]
    refine awp_skip ?_
    have hil : i < a.kids.length := by omega
    have gi : a.kids[i]? = some a.kids[i] := List.getElem?_eq_getElem hil
    have hkk := Tm.kid_w (List.getElem_mem hil)
    have hks := sum_take a.kids hil
    have hle := sum_le a.kids (i + 1)
    have hmx := max_take a.kids hil
    have hw1 : IntKind.i64.wrap ((((a.kids.take i).map Tm.w).sum + 1 : Nat) + (a.kids[i].w : Int)) = ((((a.kids.take (i + 1)).map Tm.w).sum + 1 : Nat) : Int) := by
      rw [wrapId ⟨by omega, by omega⟩]; omega
    have ihk := ih a.kids[i] (List.getElem_mem hil) (by omega)
    refine awp_seq ?_
    refine awp_block ?_
    refine awp_seq ?_
    refine awp_run rfl (by simp only [fwA, ↓reduceIte, Nat.reduceAdd, Nat.reduceMul, Nat.reduceEqDiff, Nat.reduceLT, Nat.reduceLeDiff, reduceCtorEq, fl24_3, ti22, un22, el22, ti24, Tm.fw, List.getElem?_map, gi, Option.map_some, Int.natCast_nonneg] <;> rfl) ?_
    refine awp_region rfl ?_
    refine aops_run 2 (by simp only [fwA, ↓reduceIte, Nat.reduceAdd, Nat.reduceMul, Nat.reduceEqDiff, Nat.reduceLT, Nat.reduceLeDiff, reduceCtorEq, fl24_3, ti22, un22, el22, ti24, Tm.fw] <;> rfl) ?_
    refine aops_fn rfl rfl rfl en11 ihk ?_
    refine aops_run 2 (by simp only [fwA, ↓reduceIte, Nat.reduceAdd, Nat.reduceMul, Nat.reduceEqDiff, Nat.reduceLT, Nat.reduceLeDiff, reduceCtorEq, hw1] <;> rfl) ?_
    refine awp_run rfl (by simp only [fwA, ↓reduceIte, Nat.reduceAdd, Nat.reduceMul, Nat.reduceEqDiff, Nat.reduceLT, Nat.reduceLeDiff, reduceCtorEq, wrapS i (by omega)] <;> rfl) ?_
    exact ⟨i + 1, [.box a.kids[i].enc], by omega, by omega, by rfl, by simp, rfl, Nat.le_refl _⟩
  simp only [hc, decide_false, Bool.false_eq_true, ↓reduceIte]
  refine awp_exit ?_
  have hie : i = a.kids.length := by omega
  subst hie
  rw [List.take_length]
  simp only [Post.block, Post.then, ↓reduceIte]
  refine awp_seq ?_
  rw [← hwe]
  refine awp_run rfl (by simp only [fwA, ↓reduceIte, Nat.reduceAdd, Nat.reduceMul, Nat.reduceEqDiff, Nat.reduceLT, Nat.reduceLeDiff, reduceCtorEq] <;> rfl) ?_
  refine awp_ret ?_
  exact gives_end (.inl rfl) _ rfl

/-- chancelref03.Size -/
theorem c12 (Γ : Nat → PV) : ∀ a : Tm, a.w ≤ 4611686018427387904 → Gives Tryd.prog Γ 12 [.agg a.enc] (.int .i64 a.w) := by
  refine Tm.ind fun a ih hw => ?_
  have hwe := Tm.w_eq a
  have hdw := Tm.dep_w a
  have hkw := Tm.kids_w a
  refine fn_of_awp Tryd.func12 rfl (by simp [Tryd.f12]) rfl fun H => ?_
  refine awp_seq ?_
  refine awp_run rfl (by simp only [fwA, ↓reduceIte, Nat.reduceAdd, Nat.reduceMul, Nat.reduceEqDiff, Nat.reduceLT, Nat.reduceLeDiff, reduceCtorEq, Tm.fw] <;> rfl) ?_
  refine awp_seq ?_
  refine awp_run rfl (by simp only [fwA, ↓reduceIte, Nat.reduceAdd, Nat.reduceMul, Nat.reduceEqDiff, Nat.reduceLT, Nat.reduceLeDiff, reduceCtorEq] <;> rfl) ?_
  refine awp_seq ?_
  refine awp_seq ?_
  refine awp_run rfl (by simp only [fwA, ↓reduceIte, Nat.reduceAdd, Nat.reduceMul, Nat.reduceEqDiff, Nat.reduceLT, Nat.reduceLeDiff, reduceCtorEq] <;> rfl) ?_
  refine awp_block ?_
  refine awp_for [1, 3, 4] (fun i : Nat => [.ptr H.length 0, .int .i64 ((((a.kids.take i).map Tm.w).sum + 1 : Nat) : Int), .int .i64 i]) (fun _ => H ++ [.box a.enc]) (fun i => a.kids.length - i) (fun i => i ≤ a.kids.length) 0 (by simp [alook, aput, ev, maxL]) rfl (Nat.zero_le _) fun i hi => ?_
  refine awp_seq ?_
  refine awp_seq ?_
  refine awp_run rfl (by simp only [fwA, ↓reduceIte, Nat.reduceAdd, Nat.reduceMul, Nat.reduceEqDiff, Nat.reduceLT, Nat.reduceLeDiff, reduceCtorEq, fl28_3, ti26, un26, el26, ti28, Tm.fw, List.length_map] <;> rfl) ?_
  refine awp_cond (by simp only [fwA, ↓reduceIte, Nat.reduceAdd, Nat.reduceMul, Nat.reduceEqDiff, Nat.reduceLT, Nat.reduceLeDiff, reduceCtorEq] <;> rfl) ?_
  by_cases hc : (i : Int) < a.kids.length
  · simp only [hc, decide_true, ↓reduceIte]
    refine awp_skip ?_
    have hil : i < a.kids.length := by omega
    have gi : a.kids[i]? = some a.kids[i] := List.getElem?_eq_getElem hil
    have hkk := Tm.kid_w (List.getElem_mem hil)
    have hks := sum_take a.kids hil
    have hle := sum_le a.kids (i + 1)
    have hmx := max_take a.kids hil
    have hw1 : IntKind.i64.wrap ((((a.kids.take i).map Tm.w).sum + 1 : Nat) + (a.kids[i].w : Int)) = ((((a.kids.take (i + 1)).map Tm.w).sum + 1 : Nat) : Int) := by
      rw [wrapId ⟨by omega, by omega⟩]; omega
    have ihk := ih a.kids[i] (List.getElem_mem hil) (by omega)
    refine awp_seq ?_
    refine awp_block ?_
    refine awp_region rfl ?_
    refine aops_run 6 (by simp only [fwA, ↓reduceIte, Nat.reduceAdd, Nat.reduceMul, Nat.reduceEqDiff, Nat.reduceLT, Nat.reduceLeDiff, reduceCtorEq, fl28_3, ti26, un26, el26, ti28, Tm.fw, List.getElem?_map, gi, Option.map_some, Int.natCast_nonneg] <;> rfl) ?_
    refine aops_fn rfl rfl rfl en12 ihk ?_
    refine aops_run 2 (by simp only [fwA, ↓reduceIte, Nat.reduceAdd, Nat.reduceMul, Nat.reduceEqDiff, Nat.reduceLT, Nat.reduceLeDiff, reduceCtorEq, hw1] <;> rfl) ?_
    refine awp_run rfl (by simp only [fwA, ↓reduceIte, Nat.reduceAdd, Nat.reduceMul, Nat.reduceEqDiff, Nat.reduceLT, Nat.reduceLeDiff, reduceCtorEq, wrapS i (by omega)] <;> rfl) ?_
    exact ⟨i + 1, by omega, by omega, by rfl, rfl, rfl⟩
  simp only [hc, decide_false, Bool.false_eq_true, ↓reduceIte]
  refine awp_exit ?_
  have hie : i = a.kids.length := by omega
  subst hie
  rw [List.take_length]
  simp only [Post.block, Post.then, ↓reduceIte]
  refine awp_seq ?_
  rw [← hwe]
  refine awp_run rfl (by simp only [fwA, ↓reduceIte, Nat.reduceAdd, Nat.reduceMul, Nat.reduceEqDiff, Nat.reduceLT, Nat.reduceLeDiff, reduceCtorEq] <;> rfl) ?_
  refine awp_ret ?_
  exact gives_end (.inl rfl) _ rfl

/-- term.Depth -/
theorem c13 (Γ : Nat → PV) : ∀ a : Tm, a.w ≤ 4611686018427387904 → Gives Tryd.prog Γ 13 [.agg a.enc] (.int .i64 a.dep) := by
  refine Tm.ind fun a ih hw => ?_
  have hwe := Tm.w_eq a
  have hdw := Tm.dep_w a
  have hkw := Tm.kids_w a
  refine fn_of_awp Tryd.func13 rfl (by simp [Tryd.f13]) rfl fun H => ?_
  refine awp_seq ?_
  refine awp_run rfl (by simp only [fwA, ↓reduceIte, Nat.reduceAdd, Nat.reduceMul, Nat.reduceEqDiff, Nat.reduceLT, Nat.reduceLeDiff, reduceCtorEq, Tm.fw] <;> rfl) ?_
  refine awp_seq ?_
  refine awp_run rfl (by simp only [fwA, ↓reduceIte, Nat.reduceAdd, Nat.reduceMul, Nat.reduceEqDiff, Nat.reduceLT, Nat.reduceLeDiff, reduceCtorEq] <;> rfl) ?_
  refine awp_seq ?_
  refine awp_seq ?_
  refine awp_run rfl (by simp only [fwA, ↓reduceIte, Nat.reduceAdd, Nat.reduceMul, Nat.reduceEqDiff, Nat.reduceLT, Nat.reduceLeDiff, reduceCtorEq, fl24_3, ti22, un22, el22, ti24, Tm.fw, List.length_map] <;> rfl) ?_
  refine awp_bd fun hbd => ?_
  refine awp_block ?_
  refine awp_forG [3, 7, 8, 9] (fun i : Nat => [.int .i64 ((maxL ((a.kids.take i).map Tm.dep) : Nat) : Int), .vec (a.kids.map Tm.enc) false, .int .i64 a.kids.length, .int .i64 i]) (fun _ => H ++ [.box a.enc]) (fun i => a.kids.length - i) (fun i => i ≤ a.kids.length) 0 (by simp [alook, aput, ev, maxL]) rfl (Nat.zero_le _) (fun i _ => ⟨hbd, by simp [PV.bdL, PV.bd]⟩) (fun i _ b hb => by cases hb) fun i hi => ?_
  refine awp_seq ?_
  refine awp_run rfl (by simp only [fwA, ↓reduceIte, Nat.reduceAdd, Nat.reduceMul, Nat.reduceEqDiff, Nat.reduceLT, Nat.reduceLeDiff, reduceCtorEq] <;> rfl) ?_
  refine awp_seq ?_
  refine awp_cond (by simp only [fwA, ↓reduceIte, Nat.reduceAdd, Nat.reduceMul, Nat.reduceEqDiff, Nat.reduceLT, Nat.reduceLeDiff, reduceCtorEq] <;> rfl) ?_
  by_cases hc : (i : Int) < a.kids.length
  · simp only [hc, decide_true, ↓reduceIte]
    refine awp_skip ?_
    have hil : i < a.kids.length := by omega
    have gi : a.kids[i]? = some a.kids[i] := List.getElem?_eq_getElem hil
    have hkk := Tm.kid_w (List.getElem_mem hil)
    have hks := sum_take a.kids hil
    have hle := sum_le a.kids (i + 1)
    have hmx := max_take a.kids hil
    have hw1 : IntKind.i64.wrap ((((a.kids.take i).map Tm.w).sum + 1 : Nat) + (a.kids[i].w : Int)) = ((((a.kids.take (i + 1)).map Tm.w).sum + 1 : Nat) : Int) := by
      rw [wrapId ⟨by omega, by omega⟩]; omega
    have ihk := ih a.kids[i] (List.getElem_mem hil) (by omega)
    refine awp_seq ?_
    refine awp_block ?_
    refine awp_seq ?_
    refine awp_run rfl (by simp only [fwA, ↓reduceIte, Nat.reduceAdd, Nat.reduceMul, Nat.reduceEqDiff, Nat.reduceLT, Nat.reduceLeDiff, reduceCtorEq, fl24_3, ti22, un22, el22, ti24, Tm.fw, List.getElem?_map, gi, Option.map_some, Int.natCast_nonneg] <;> rfl) ?_
    refine awp_region rfl ?_
    refine aops_run 2 (by simp only [fwA, ↓reduceIte, Nat.reduceAdd, Nat.reduceMul, Nat.reduceEqDiff, Nat.reduceLT, Nat.reduceLeDiff, reduceCtorEq, fl24_3, ti22, un22, el22, ti24, Tm.fw] <;> rfl) ?_
    refine aops_fn rfl rfl rfl en13 ihk ?_
    refine aops_one rfl (os_max rfl rfl rfl ?_)
    refine aops_run 1 (by simp only [fwA, ↓reduceIte, Nat.reduceAdd, Nat.reduceMul, Nat.reduceEqDiff, Nat.reduceLT, Nat.reduceLeDiff, reduceCtorEq] <;> rfl) ?_
    refine awp_run rfl (by simp only [fwA, ↓reduceIte, Nat.reduceAdd, Nat.reduceMul, Nat.reduceEqDiff, Nat.reduceLT, Nat.reduceLeDiff, reduceCtorEq, wrapS i (by omega)] <;> rfl) ?_
    exact ⟨i + 1, [.box a.kids[i].enc], by omega, by omega, by rw [hmx, ← max_of]; rfl, by simp, rfl, Nat.le_refl _⟩
  simp only [hc, decide_false, Bool.false_eq_true, ↓reduceIte]
  refine awp_exit ?_
  have hie : i = a.kids.length := by omega
  subst hie
  rw [List.take_length]
  simp only [Post.block, Post.then, ↓reduceIte]
  refine awp_seq ?_
  have hde := Tm.dep_eq a
  have hw2 : IntKind.i64.wrap ((maxL (a.kids.map Tm.dep) : Int) + 1) = (a.dep : Int) := by rw [wrapId ⟨by omega, by omega⟩]; omega
  refine awp_run rfl (by simp only [fwA, ↓reduceIte, Nat.reduceAdd, Nat.reduceMul, Nat.reduceEqDiff, Nat.reduceLT, Nat.reduceLeDiff, reduceCtorEq, hw2] <;> rfl) ?_
  refine awp_ret ?_
  exact gives_end (.inl rfl) _ rfl

/-- chancelref03.Depth -/
theorem c14 (Γ : Nat → PV) : ∀ a : Tm, a.w ≤ 4611686018427387904 → Gives Tryd.prog Γ 14 [.agg a.enc] (.int .i64 a.dep) := by
  refine Tm.ind fun a ih hw => ?_
  have hwe := Tm.w_eq a
  have hdw := Tm.dep_w a
  have hkw := Tm.kids_w a
  refine fn_of_awp Tryd.func14 rfl (by simp [Tryd.f14]) rfl fun H => ?_
  refine awp_seq ?_
  refine awp_run rfl (by simp only [fwA, ↓reduceIte, Nat.reduceAdd, Nat.reduceMul, Nat.reduceEqDiff, Nat.reduceLT, Nat.reduceLeDiff, reduceCtorEq, Tm.fw] <;> rfl) ?_
  refine awp_seq ?_
  refine awp_run rfl (by simp only [fwA, ↓reduceIte, Nat.reduceAdd, Nat.reduceMul, Nat.reduceEqDiff, Nat.reduceLT, Nat.reduceLeDiff, reduceCtorEq] <;> rfl) ?_
  refine awp_seq ?_
  refine awp_seq ?_
  refine awp_run rfl (by simp only [fwA, ↓reduceIte, Nat.reduceAdd, Nat.reduceMul, Nat.reduceEqDiff, Nat.reduceLT, Nat.reduceLeDiff, reduceCtorEq] <;> rfl) ?_
  refine awp_block ?_
  refine awp_for [1, 3, 4] (fun i : Nat => [.ptr H.length 0, .int .i64 ((maxL ((a.kids.take i).map Tm.dep) : Nat) : Int), .int .i64 i]) (fun _ => H ++ [.box a.enc]) (fun i => a.kids.length - i) (fun i => i ≤ a.kids.length) 0 (by simp [alook, aput, ev, maxL]) rfl (Nat.zero_le _) fun i hi => ?_
  refine awp_seq ?_
  refine awp_seq ?_
  refine awp_run rfl (by simp only [fwA, ↓reduceIte, Nat.reduceAdd, Nat.reduceMul, Nat.reduceEqDiff, Nat.reduceLT, Nat.reduceLeDiff, reduceCtorEq, fl28_3, ti26, un26, el26, ti28, Tm.fw, List.length_map] <;> rfl) ?_
  refine awp_cond (by simp only [fwA, ↓reduceIte, Nat.reduceAdd, Nat.reduceMul, Nat.reduceEqDiff, Nat.reduceLT, Nat.reduceLeDiff, reduceCtorEq] <;> rfl) ?_
  by_cases hc : (i : Int) < a.kids.length
  · simp only [hc, decide_true, ↓reduceIte]
    refine awp_skip ?_
    have hil : i < a.kids.length := by omega
    have gi : a.kids[i]? = some a.kids[i] := List.getElem?_eq_getElem hil
    have hkk := Tm.kid_w (List.getElem_mem hil)
    have hks := sum_take a.kids hil
    have hle := sum_le a.kids (i + 1)
    have hmx := max_take a.kids hil
    have hw1 : IntKind.i64.wrap ((((a.kids.take i).map Tm.w).sum + 1 : Nat) + (a.kids[i].w : Int)) = ((((a.kids.take (i + 1)).map Tm.w).sum + 1 : Nat) : Int) := by
      rw [wrapId ⟨by omega, by omega⟩]; omega
    have ihk := ih a.kids[i] (List.getElem_mem hil) (by omega)
    refine awp_seq ?_
    refine awp_block ?_
    refine awp_region rfl ?_
    refine aops_run 6 (by simp only [fwA, ↓reduceIte, Nat.reduceAdd, Nat.reduceMul, Nat.reduceEqDiff, Nat.reduceLT, Nat.reduceLeDiff, reduceCtorEq, fl28_3, ti26, un26, el26, ti28, Tm.fw, List.getElem?_map, gi, Option.map_some, Int.natCast_nonneg] <;> rfl) ?_
    refine aops_fn rfl rfl rfl en14 ihk ?_
    refine aops_one rfl (os_max rfl rfl rfl ?_)
    refine aops_run 1 (by simp only [fwA, ↓reduceIte, Nat.reduceAdd, Nat.reduceMul, Nat.reduceEqDiff, Nat.reduceLT, Nat.reduceLeDiff, reduceCtorEq] <;> rfl) ?_
    refine awp_run rfl (by simp only [fwA, ↓reduceIte, Nat.reduceAdd, Nat.reduceMul, Nat.reduceEqDiff, Nat.reduceLT, Nat.reduceLeDiff, reduceCtorEq, wrapS i (by omega)] <;> rfl) ?_
    exact ⟨i + 1, by omega, by omega, by rw [hmx, ← max_of]; rfl, rfl, rfl⟩
  simp only [hc, decide_false, Bool.false_eq_true, ↓reduceIte]
  refine awp_exit ?_
  have hie : i = a.kids.length := by omega
  subst hie
  rw [List.take_length]
  simp only [Post.block, Post.then, ↓reduceIte]
  refine awp_seq ?_
  have hde := Tm.dep_eq a
  have hw2 : IntKind.i64.wrap ((maxL (a.kids.map Tm.dep) : Int) + 1) = (a.dep : Int) := by rw [wrapId ⟨by omega, by omega⟩]; omega
  refine awp_run rfl (by simp only [fwA, ↓reduceIte, Nat.reduceAdd, Nat.reduceMul, Nat.reduceEqDiff, Nat.reduceLT, Nat.reduceLeDiff, reduceCtorEq, hw2] <;> rfl) ?_
  refine awp_ret ?_
  exact gives_end (.inl rfl) _ rfl

/-- term.Binder -/
theorem c22 (Γ : Nat → PV) (a : Tm) : Gives Tryd.prog Γ 22 [.agg a.enc] (.bool a.binder) := by
  refine fn_of_awp Tryd.func22 rfl (by simp [Tryd.f22]) rfl fun H => ?_
  refine awp_seq ?_
  refine awp_run rfl (by simp only [fwA, ↓reduceIte, Nat.reduceAdd, Nat.reduceMul, Nat.reduceEqDiff, Nat.reduceLT, Nat.reduceLeDiff, reduceCtorEq] <;> rfl) ?_
  refine awp_seq ?_
  unfold Tm.binder
  by_cases h3 : a.kind = 3
  · refine awp_run rfl (by simp only [fwA, ↓reduceIte, Nat.reduceAdd, Nat.reduceMul, Nat.reduceEqDiff, Nat.reduceLT, Nat.reduceLeDiff, reduceCtorEq, fl24_0, ti3, Tm.fw, h3, decide_true] <;> rfl) ?_
    exact awp_ret (gives_end (.inl rfl) _ (by simp only [h3, decide_true, Bool.true_or]; rfl))
  by_cases h5 : a.kind = 5
  · refine awp_run rfl (by simp only [fwA, ↓reduceIte, Nat.reduceAdd, Nat.reduceMul, Nat.reduceEqDiff, Nat.reduceLT, Nat.reduceLeDiff, reduceCtorEq, fl24_0, ti3, Tm.fw, h3, h5, decide_true, decide_false] <;> rfl) ?_
    exact awp_ret (gives_end (.inl rfl) _ (by simp only [h3, h5, decide_true, decide_false, Bool.true_or, Bool.or_true]; rfl))
  refine awp_run rfl (by simp only [fwA, ↓reduceIte, Nat.reduceAdd, Nat.reduceMul, Nat.reduceEqDiff, Nat.reduceLT, Nat.reduceLeDiff, reduceCtorEq, fl24_0, ti3, Tm.fw, h3, h5, decide_false] <;> rfl) ?_
  exact awp_ret (gives_end (.inl rfl) _ (by simp only [h3, h5, decide_false, Bool.false_or]; rfl))

/-- chancelref03.Binder -/
theorem c23 (Γ : Nat → PV) (a : Tm) : Gives Tryd.prog Γ 23 [.agg a.enc] (.bool a.binder) := by
  refine fn_of_awp Tryd.func23 rfl (by simp [Tryd.f23]) rfl fun H => ?_
  refine awp_seq ?_
  refine awp_run rfl (by simp only [fwA, ↓reduceIte, Nat.reduceAdd, Nat.reduceMul, Nat.reduceEqDiff, Nat.reduceLT, Nat.reduceLeDiff, reduceCtorEq] <;> rfl) ?_
  refine awp_seq ?_
  unfold Tm.binder
  by_cases h3 : a.kind = 3
  · refine awp_run rfl (by simp only [fwA, ↓reduceIte, Nat.reduceAdd, Nat.reduceMul, Nat.reduceEqDiff, Nat.reduceLT, Nat.reduceLeDiff, reduceCtorEq, fl28_0, ti3, Tm.fw, h3, decide_true] <;> rfl) ?_
    exact awp_ret (gives_end (.inl rfl) _ (by simp only [h3, decide_true, Bool.true_or]; rfl))
  by_cases h5 : a.kind = 5
  · refine awp_run rfl (by simp only [fwA, ↓reduceIte, Nat.reduceAdd, Nat.reduceMul, Nat.reduceEqDiff, Nat.reduceLT, Nat.reduceLeDiff, reduceCtorEq, fl28_0, ti3, Tm.fw, h3, h5, decide_true, decide_false] <;> rfl) ?_
    exact awp_ret (gives_end (.inl rfl) _ (by simp only [h3, h5, decide_true, decide_false, Bool.true_or, Bool.or_true]; rfl))
  refine awp_run rfl (by simp only [fwA, ↓reduceIte, Nat.reduceAdd, Nat.reduceMul, Nat.reduceEqDiff, Nat.reduceLT, Nat.reduceLeDiff, reduceCtorEq, fl28_0, ti3, Tm.fw, h3, h5, decide_false] <;> rfl) ?_
  exact awp_ret (gives_end (.inl rfl) _ (by simp only [h3, h5, decide_false, Bool.false_or]; rfl))

/-- two -/
theorem c24 (Γ : Nat → PV) (k : Int) (nm : List UInt8) (a b : Tm) : Gives Tryd.prog Γ 24 [.int .i64 k, .str nm, .agg a.enc, .agg b.enc] (.agg [.int .i64 k, .str nm, .int .i64 0, .vec [a.enc, b.enc] true]) := by
  refine fn_of_awp Tryd.func24 rfl (by simp [Tryd.f24]) rfl fun H => ?_
  refine awp_seq ?_
  refine awp_run rfl (by simp only [fwA, ↓reduceIte, Nat.reduceAdd, Nat.reduceMul, Nat.reduceEqDiff, Nat.reduceLT, Nat.reduceLeDiff, reduceCtorEq, ti24, Tm.fw] <;> rfl) ?_
  refine awp_seq ?_
  refine awp_run rfl (by simp only [fwA, ↓reduceIte, Nat.reduceAdd, Nat.reduceMul, Nat.reduceEqDiff, Nat.reduceLT, Nat.reduceLeDiff, reduceCtorEq, ti24, un22, pl24, Tm.fw, PV.bdL_append, Bool.and_self, List.take_zero, List.append_nil] <;> rfl) ?_
  refine awp_ret ?_
  refine gives_end (.inl rfl) _ ?_
  simp only [fwA, ↓reduceIte, Nat.reduceAdd, Nat.reduceMul, Nat.reduceEqDiff, Nat.reduceLT, Nat.reduceLeDiff, reduceCtorEq, ares, aresL, ares1, alook, Tryd.f24, ti24]
/-- num -/
theorem c26 (Γ : Nat → PV) (n : Int) : Gives Tryd.prog Γ 26 [.int .i64 n] (.agg [.int .i64 1, .str [], .int .i64 n, .vec [] true]) := by
  refine fn_of_awp Tryd.func26 rfl (by simp [Tryd.f26]) rfl fun H => ?_
  refine awp_seq ?_
  refine awp_run rfl (by simp only [fwA, ↓reduceIte, Nat.reduceAdd, Nat.reduceMul, Nat.reduceEqDiff, Nat.reduceLT, Nat.reduceLeDiff, reduceCtorEq, ti24] <;> rfl) ?_
  refine awp_seq ?_
  refine awp_run rfl (by simp only [fwA, ↓reduceIte, Nat.reduceAdd, Nat.reduceMul, Nat.reduceEqDiff, Nat.reduceLT, Nat.reduceLeDiff, reduceCtorEq, ti24, pl24] <;> rfl) ?_
  refine awp_ret ?_
  refine gives_end (.inl rfl) _ ?_
  simp only [fwA, ↓reduceIte, Nat.reduceAdd, Nat.reduceMul, Nat.reduceEqDiff, Nat.reduceLT, Nat.reduceLeDiff, reduceCtorEq, ares, aresL, ares1, alook, Tryd.f26, ti24]
/-- of -/
theorem c27 (Γ : Nat → PV) (s : List UInt8) : Gives Tryd.prog Γ 27 [.str s] (.agg [.int .i64 2, .str s, .int .i64 0, .vec [] true]) := by
  refine fn_of_awp Tryd.func27 rfl (by simp [Tryd.f27]) rfl fun H => ?_
  refine awp_seq ?_
  refine awp_run rfl (by simp only [fwA, ↓reduceIte, Nat.reduceAdd, Nat.reduceMul, Nat.reduceEqDiff, Nat.reduceLT, Nat.reduceLeDiff, reduceCtorEq, ti24] <;> rfl) ?_
  refine awp_seq ?_
  refine awp_run rfl (by simp only [fwA, ↓reduceIte, Nat.reduceAdd, Nat.reduceMul, Nat.reduceEqDiff, Nat.reduceLT, Nat.reduceLeDiff, reduceCtorEq, ti24, pl24] <;> rfl) ?_
  refine awp_ret ?_
  refine gives_end (.inl rfl) _ ?_
  simp only [fwA, ↓reduceIte, Nat.reduceAdd, Nat.reduceMul, Nat.reduceEqDiff, Nat.reduceLT, Nat.reduceLeDiff, reduceCtorEq, ares, aresL, ares1, alook, Tryd.f27, ti24]

end Go.Proofs.YtlbmlhpjibgepaaDoor

/- The contracts of names, words, and of what looks for a text among some. -/
namespace Go.Proofs.YtlbmlhpjibgepaaDoor
set_option linter.unusedVariables false
set_option linter.unusedSimpArgs false
set_option maxRecDepth 100000
open Go.RowKit Fw

def letN (n : Nat) : Bool := (decide (97 ≤ n) && decide (n ≤ 122)) || (decide (65 ≤ n) && decide (n ≤ 90))
def low (n : Int) : Int := IntKind.u8.wrap ((BitVec.ofInt IntKind.u8.bits n ||| BitVec.ofInt IntKind.u8.bits 32).toNat : Int)
theorem low_all : ∀ n : Fin 256, (decide (97 ≤ low (n.val : Int)) && decide (low (n.val : Int) ≤ 122)) = letN n.val := of_decide_eq_true (by kernel_rfl)
theorem or32 (n : Int) : abin .or (.int .u8 n) (.int .u8 32) = some (.int .u8 (low n)) := rfl
theorem low_let (c : UInt8) : (decide (97 ≤ low (c.toNat : Int)) && decide (low (c.toNat : Int) ≤ 122)) = letB c := low_all ⟨c.toNat, c.toNat_lt⟩

/-- lat.letter -/
theorem c45 (Γ : Nat → PV) (c : UInt8) : Gives Tryd.prog Γ 45 [.int .u8 (c.toNat : Int)] (.bool (letB c)) := by
  refine fn_of_awp Tryd.func45 rfl (by simp [Tryd.f45]) rfl fun H => ?_
  refine awp_seq ?_
  refine awp_run rfl (by simp only [fwA, ↓reduceIte, Nat.reduceAdd, Nat.reduceMul, Nat.reduceEqDiff, Nat.reduceLT, Nat.reduceLeDiff, reduceCtorEq] <;> rfl) ?_
  refine awp_seq ?_
  rw [← low_let c]
  by_cases h1 : 97 ≤ low (c.toNat : Int)
  · refine awp_run rfl (by simp only [fwA, ↓reduceIte, Nat.reduceAdd, Nat.reduceMul, Nat.reduceEqDiff, Nat.reduceLT, Nat.reduceLeDiff, reduceCtorEq, or32, h1, decide_true] <;> rfl) ?_
    exact awp_ret (gives_end0 (.inl rfl) (by simp only [h1, decide_true, Bool.true_and]; rfl))
  · refine awp_run rfl (by simp only [fwA, ↓reduceIte, Nat.reduceAdd, Nat.reduceMul, Nat.reduceEqDiff, Nat.reduceLT, Nat.reduceLeDiff, reduceCtorEq, or32, h1, decide_false] <;> rfl) ?_
    exact awp_ret (gives_end0 (.inl rfl) (by simp only [h1, decide_false, Bool.false_and]; rfl))

theorem nm_dec {s : List UInt8} {i : Nat} {c : UInt8} (hc : s[i]? = some c) : nmAt i c = (letB c || (decide ((i : Int) ≠ 0) && digB c)) := by
  unfold nmAt
  have : decide ((i : Int) ≠ 0) = decide (i ≠ 0) := by
    by_cases h : i = 0
    · subst h; rfl
    · rw [decide_eq_true h, decide_eq_true (by omega)]
  rw [this, Bool.and_true, Bool.and_comm (digB c)]

/-- lat.Name -/
theorem c37 (Γ : Nat → PV) (s : List UInt8) : Gives Tryd.prog Γ 37 [.str s] (.bool (decide (nameP s))) := by
  refine fn_of_awp Tryd.func37 rfl (by simp [Tryd.f37]) rfl fun H => ?_
  refine awp_slen 0 rfl fun hlen => ?_
  refine awp_seq ?_
  refine awp_run rfl (by simp only [fwA, ↓reduceIte, Nat.reduceAdd, Nat.reduceMul, Nat.reduceEqDiff, Nat.reduceLT, Nat.reduceLeDiff, reduceCtorEq] <;> rfl) ?_
  refine awp_seq ?_
  refine awp_seq ?_
  refine awp_run rfl (by simp only [fwA, ↓reduceIte, Nat.reduceAdd, Nat.reduceMul, Nat.reduceEqDiff, Nat.reduceLT, Nat.reduceLeDiff, reduceCtorEq, un9] <;> rfl) ?_
  refine awp_block ?_
  refine awp_for [0, 6, 7] (fun i : Nat => [.str s, .int .i64 s.length, .int .i64 i]) (fun _ => H) (fun i => s.length - i) (fun i => i ≤ s.length ∧ nmPre s i) 0 rfl rfl ⟨Nat.zero_le _, fun j hj => by omega⟩ fun i hs => ?_
  obtain ⟨hi, hp⟩ := hs
  refine awp_seq ?_
  refine awp_run rfl (by simp only [fwA, ↓reduceIte, Nat.reduceAdd, Nat.reduceMul, Nat.reduceEqDiff, Nat.reduceLT, Nat.reduceLeDiff, reduceCtorEq] <;> rfl) ?_
  refine awp_seq ?_
  refine awp_cond (by simp only [fwA, ↓reduceIte, Nat.reduceAdd, Nat.reduceMul, Nat.reduceEqDiff, Nat.reduceLT, Nat.reduceLeDiff, reduceCtorEq] <;> rfl) ?_
  by_cases hc : (i : Int) < s.length
  rotate_left
  · simp only [hc, decide_false, Bool.false_eq_true, ↓reduceIte]
    refine awp_exit ?_
    have hie : i = s.length := by omega
    subst hie
    refine awp_seq ?_
    by_cases h0 : 0 < (s.length : Int)
    rotate_left
    · refine awp_run rfl (by simp only [fwA, ↓reduceIte, Nat.reduceAdd, Nat.reduceMul, Nat.reduceEqDiff, Nat.reduceLT, Nat.reduceLeDiff, reduceCtorEq, un9, h0, decide_false] <;> rfl) ?_
      exact awp_ret (gives_end0 (.inl rfl) (by rw [decide_eq_false (fun e => h0 (by have := e.1; omega))]; rfl))
    by_cases h16 : (s.length : Int) ≤ 16
    · refine awp_run rfl (by simp only [fwA, ↓reduceIte, Nat.reduceAdd, Nat.reduceMul, Nat.reduceEqDiff, Nat.reduceLT, Nat.reduceLeDiff, reduceCtorEq, un9, h0, h16, decide_true] <;> rfl) ?_
      exact awp_ret (gives_end0 (.inl rfl) (by rw [decide_eq_true (show nameP s from ⟨by omega, by omega, hp⟩)]; rfl))
    · refine awp_run rfl (by simp only [fwA, ↓reduceIte, Nat.reduceAdd, Nat.reduceMul, Nat.reduceEqDiff, Nat.reduceLT, Nat.reduceLeDiff, reduceCtorEq, un9, h0, h16, decide_true, decide_false] <;> rfl) ?_
      exact awp_ret (gives_end0 (.inl rfl) (by rw [decide_eq_false (fun e => h16 (by have := e.2.1; omega))]; rfl))
  simp only [hc, decide_true, ↓reduceIte]
  refine awp_skip ?_
  have hia : i < s.length := by omega
  have gc : s[i]? = some s[i] := List.getElem?_eq_getElem hia
  have hnd := nm_dec gc
  have hsuc := nmPre_succ gc
  have hnot : nmAt i s[i] = false → ¬ nameP s := fun h e => by have := e.2.2 i hia _ gc; rw [h] at this; cases this
  generalize s[i] = c at gc hnd hsuc hnot
  have h45 := c45 Γ c
  generalize letB c = bl at hnd h45
  refine awp_seq ?_
  refine awp_block ?_
  refine awp_seq ?_
  refine awp_run rfl (by simp only [fwA, ↓reduceIte, Nat.reduceAdd, Nat.reduceMul, Nat.reduceEqDiff, Nat.reduceLT, Nat.reduceLeDiff, reduceCtorEq] <;> rfl) ?_
  refine awp_seq ?_
  refine AWP.mono (Q := fun e A' H' D' => e = .normal ∧ akeep [0, 3, 4, 6, 7] A' = [(0, .str s), (3, .int .i64 i), (4, .bool (digB c)), (6, .int .i64 s.length), (7, .int .i64 i)] ∧ H' = H ∧ D' = []) ?_ fun e A' H' D' hq => ?_
  · unfold digB
    by_cases h1 : 48 ≤ (c.toNat : Int)
    · have h1' : 48 ≤ c.toNat := by omega
      refine awp_run rfl (by simp only [fwA, ↓reduceIte, Nat.reduceAdd, Nat.reduceMul, Nat.reduceEqDiff, Nat.reduceLT, Nat.reduceLeDiff, reduceCtorEq, un9, gc, Int.toNat_natCast, Int.natCast_nonneg, h1, decide_true] <;> rfl) ⟨rfl, ?_, rfl, rfl⟩
      have : decide ((c.toNat : Int) ≤ 57) = decide (c.toNat ≤ 57) := decide_eq_decide.2 (by omega)
      simp only [akeep, alook, aput, ev, h1', decide_true, Bool.true_and, ← this] <;> rfl
    · have h1' : ¬ 48 ≤ c.toNat := by omega
      refine awp_run rfl (by simp only [fwA, ↓reduceIte, Nat.reduceAdd, Nat.reduceMul, Nat.reduceEqDiff, Nat.reduceLT, Nat.reduceLeDiff, reduceCtorEq, un9, gc, Int.toNat_natCast, Int.natCast_nonneg, h1, decide_false] <;> rfl) ⟨rfl, ?_, rfl, rfl⟩
      simp only [akeep, alook, aput, ev, h1', decide_false, Bool.false_and] <;> rfl
  obtain ⟨rfl, hA, rfl, rfl⟩ := hq
  refine awp_keep _ hA ?_
  generalize digB c = bd at hnd ⊢
  refine awp_seq ?_
  refine awp_region rfl ?_
  refine aops_run 3 (by simp only [fwA, ↓reduceIte, Nat.reduceAdd, Nat.reduceMul, Nat.reduceEqDiff, Nat.reduceLT, Nat.reduceLeDiff, reduceCtorEq, un9, gc, Int.toNat_natCast, Int.natCast_nonneg] <;> rfl) ?_
  refine aops_fn rfl rfl rfl en45 h45 ?_
  have fin : nmAt i c = true → nmPre s (i + 1) := fun h => hsuc.2 ⟨hp, h⟩
  cases bl with
  | true =>
    refine aops_run 9 (by simp only [fwA, ↓reduceIte, Nat.reduceAdd, Nat.reduceMul, Nat.reduceEqDiff, Nat.reduceLT, Nat.reduceLeDiff, reduceCtorEq] <;> rfl) ?_
    refine awp_cond (b := false) (by simp only [fwA, ↓reduceIte, Nat.reduceAdd, Nat.reduceMul, Nat.reduceEqDiff, Nat.reduceLT, Nat.reduceLeDiff, reduceCtorEq] <;> rfl) (awp_skip ?_)
    refine awp_run rfl (by simp only [fwA, ↓reduceIte, Nat.reduceAdd, Nat.reduceMul, Nat.reduceEqDiff, Nat.reduceLT, Nat.reduceLeDiff, reduceCtorEq] <;> rfl) ?_
    exact ⟨i + 1, by omega, ⟨by omega, fin (by rw [hnd]; rfl)⟩, by rw [wrapS i (by omega)]; rfl, rfl, rfl⟩
  | false =>
    by_cases hz : (i : Int) = 0
    · refine aops_run 9 (by simp only [fwA, ↓reduceIte, Nat.reduceAdd, Nat.reduceMul, Nat.reduceEqDiff, Nat.reduceLT, Nat.reduceLeDiff, reduceCtorEq, hz, decide_true] <;> rfl) ?_
      refine awp_cond (b := true) (by simp only [fwA, ↓reduceIte, Nat.reduceAdd, Nat.reduceMul, Nat.reduceEqDiff, Nat.reduceLT, Nat.reduceLeDiff, reduceCtorEq] <;> rfl) ?_
      refine awp_seq (awp_run rfl (by simp only [fwA, ↓reduceIte, Nat.reduceAdd, Nat.reduceMul, Nat.reduceEqDiff, Nat.reduceLT, Nat.reduceLeDiff, reduceCtorEq] <;> rfl) (awp_ret ?_))
      exact gives_end0 (.inl rfl) (by rw [decide_eq_false (hnot (by rw [hnd, decide_eq_false (by simpa using hz)]; rfl))]; rfl)
    · cases bd with
      | true =>
        refine aops_run 9 (by simp only [fwA, ↓reduceIte, Nat.reduceAdd, Nat.reduceMul, Nat.reduceEqDiff, Nat.reduceLT, Nat.reduceLeDiff, reduceCtorEq, hz, decide_false] <;> rfl) ?_
        refine awp_cond (b := false) (by simp only [fwA, ↓reduceIte, Nat.reduceAdd, Nat.reduceMul, Nat.reduceEqDiff, Nat.reduceLT, Nat.reduceLeDiff, reduceCtorEq] <;> rfl) (awp_skip ?_)
        refine awp_run rfl (by simp only [fwA, ↓reduceIte, Nat.reduceAdd, Nat.reduceMul, Nat.reduceEqDiff, Nat.reduceLT, Nat.reduceLeDiff, reduceCtorEq] <;> rfl) ?_
        exact ⟨i + 1, by omega, ⟨by omega, fin (by rw [hnd, decide_eq_true hz]; rfl)⟩, by rw [wrapS i (by omega)]; rfl, rfl, rfl⟩
      | false =>
        refine aops_run 9 (by simp only [fwA, ↓reduceIte, Nat.reduceAdd, Nat.reduceMul, Nat.reduceEqDiff, Nat.reduceLT, Nat.reduceLeDiff, reduceCtorEq, hz, decide_false] <;> rfl) ?_
        refine awp_cond (b := true) (by simp only [fwA, ↓reduceIte, Nat.reduceAdd, Nat.reduceMul, Nat.reduceEqDiff, Nat.reduceLT, Nat.reduceLeDiff, reduceCtorEq] <;> rfl) ?_
        refine awp_seq (awp_run rfl (by simp only [fwA, ↓reduceIte, Nat.reduceAdd, Nat.reduceMul, Nat.reduceEqDiff, Nat.reduceLT, Nat.reduceLeDiff, reduceCtorEq] <;> rfl) (awp_ret ?_))
        exact gives_end0 (.inl rfl) (by rw [decide_eq_false (hnot (by rw [hnd]; simp))]; rfl)

/-- chancelref01.Name -/
theorem c53 (Γ : Nat → PV) (s : List UInt8) : Gives Tryd.prog Γ 53 [.str s] (.bool (decide (nameP s))) := by
  refine fn_of_awp Tryd.func53 rfl (by simp [Tryd.f53]) rfl fun H => ?_
  refine awp_seq ?_
  refine awp_run rfl (by simp only [fwA, ↓reduceIte, Nat.reduceAdd, Nat.reduceMul, Nat.reduceEqDiff, Nat.reduceLT, Nat.reduceLeDiff, reduceCtorEq] <;> rfl) ?_
  refine awp_seq ?_
  refine awp_seq ?_
  by_cases h1 : (s.length : Int) < 1
  · refine awp_run rfl (by simp only [fwA, ↓reduceIte, Nat.reduceAdd, Nat.reduceMul, Nat.reduceEqDiff, Nat.reduceLT, Nat.reduceLeDiff, reduceCtorEq, un9, h1, decide_true] <;> rfl) ?_
    refine awp_cond (b := true) (by simp only [fwA, ↓reduceIte, Nat.reduceAdd, Nat.reduceMul, Nat.reduceEqDiff, Nat.reduceLT, Nat.reduceLeDiff, reduceCtorEq] <;> rfl) ?_
    refine awp_seq (awp_run rfl (by simp only [fwA, ↓reduceIte, Nat.reduceAdd, Nat.reduceMul, Nat.reduceEqDiff, Nat.reduceLT, Nat.reduceLeDiff, reduceCtorEq] <;> rfl) (awp_ret ?_))
    exact gives_end0 (.inl rfl) (by rw [decide_eq_false (fun e => by have := e.1; omega)]; rfl)
  by_cases h16 : 16 < (s.length : Int)
  · refine awp_run rfl (by simp only [fwA, ↓reduceIte, Nat.reduceAdd, Nat.reduceMul, Nat.reduceEqDiff, Nat.reduceLT, Nat.reduceLeDiff, reduceCtorEq, un9, h1, h16, decide_true, decide_false] <;> rfl) ?_
    refine awp_cond (b := true) (by simp only [fwA, ↓reduceIte, Nat.reduceAdd, Nat.reduceMul, Nat.reduceEqDiff, Nat.reduceLT, Nat.reduceLeDiff, reduceCtorEq] <;> rfl) ?_
    refine awp_seq (awp_run rfl (by simp only [fwA, ↓reduceIte, Nat.reduceAdd, Nat.reduceMul, Nat.reduceEqDiff, Nat.reduceLT, Nat.reduceLeDiff, reduceCtorEq] <;> rfl) (awp_ret ?_))
    exact gives_end0 (.inl rfl) (by rw [decide_eq_false (fun e => by have := e.2.1; omega)]; rfl)
  refine awp_run rfl (by simp only [fwA, ↓reduceIte, Nat.reduceAdd, Nat.reduceMul, Nat.reduceEqDiff, Nat.reduceLT, Nat.reduceLeDiff, reduceCtorEq, un9, h1, h16, decide_true, decide_false] <;> rfl) ?_
  refine awp_cond (b := false) (by simp only [fwA, ↓reduceIte, Nat.reduceAdd, Nat.reduceMul, Nat.reduceEqDiff, Nat.reduceLT, Nat.reduceLeDiff, reduceCtorEq] <;> rfl) (awp_skip ?_)
  refine awp_seq ?_
  refine awp_seq ?_
  refine awp_run rfl (by simp only [fwA, ↓reduceIte, Nat.reduceAdd, Nat.reduceMul, Nat.reduceEqDiff, Nat.reduceLT, Nat.reduceLeDiff, reduceCtorEq] <;> rfl) ?_
  refine awp_block ?_
  refine awp_for [0, 3] (fun i : Nat => [.str s, .int .i64 i]) (fun _ => H) (fun i => s.length - i) (fun i => i ≤ s.length ∧ nmPre s i) 0 rfl rfl ⟨Nat.zero_le _, fun j hj => by omega⟩ fun i hs => ?_
  obtain ⟨hi, hp⟩ := hs
  refine awp_seq ?_
  refine awp_seq ?_
  refine awp_run rfl (by simp only [fwA, ↓reduceIte, Nat.reduceAdd, Nat.reduceMul, Nat.reduceEqDiff, Nat.reduceLT, Nat.reduceLeDiff, reduceCtorEq, un9] <;> rfl) ?_
  refine awp_cond (by simp only [fwA, ↓reduceIte, Nat.reduceAdd, Nat.reduceMul, Nat.reduceEqDiff, Nat.reduceLT, Nat.reduceLeDiff, reduceCtorEq] <;> rfl) ?_
  by_cases hc : (i : Int) < s.length
  rotate_left
  · simp only [hc, decide_false, Bool.false_eq_true, ↓reduceIte]
    refine awp_exit ?_
    have hie : i = s.length := by omega
    subst hie
    refine awp_seq (awp_run rfl (by simp only [fwA, ↓reduceIte, Nat.reduceAdd, Nat.reduceMul, Nat.reduceEqDiff, Nat.reduceLT, Nat.reduceLeDiff, reduceCtorEq] <;> rfl) (awp_ret ?_))
    exact gives_end0 (.inl rfl) (by rw [decide_eq_true (show nameP s from ⟨by omega, by omega, hp⟩)]; rfl)
  simp only [hc, decide_true, ↓reduceIte]
  refine awp_skip ?_
  have hia : i < s.length := by omega
  have gc : s[i]? = some s[i] := List.getElem?_eq_getElem hia
  have hnd := nm_dec gc
  have hsuc := nmPre_succ gc
  have hnot : nmAt i s[i] = false → ¬ nameP s := fun h e => by have := e.2.2 i hia _ gc; rw [h] at this; cases this
  generalize s[i] = c at gc hnd hsuc hnot
  refine awp_seq ?_
  refine awp_block ?_
  refine awp_seq ?_
  refine AWP.mono (Q := fun e A' H' D' => e = .normal ∧ akeep [0, 3, 4] A' = [(0, .str s), (3, .int .i64 i), (4, .bool (letB c))] ∧ H' = H ∧ D' = []) ?_ fun e A' H' D' hq => ?_
  · have e1 : decide (97 ≤ (c.toNat : Int)) = decide (97 ≤ c.toNat) := decide_eq_decide.2 (by omega)
    have e2 : decide ((c.toNat : Int) ≤ 122) = decide (c.toNat ≤ 122) := decide_eq_decide.2 (by omega)
    have e3 : decide (65 ≤ (c.toNat : Int)) = decide (65 ≤ c.toNat) := decide_eq_decide.2 (by omega)
    have e4 : decide ((c.toNat : Int) ≤ 90) = decide (c.toNat ≤ 90) := decide_eq_decide.2 (by omega)
    unfold letB
    rw [← e1, ← e2, ← e3, ← e4]
    by_cases k1 : 97 ≤ (c.toNat : Int) <;> by_cases k2 : (c.toNat : Int) ≤ 122 <;> by_cases k3 : 65 ≤ (c.toNat : Int) <;> by_cases k4 : (c.toNat : Int) ≤ 90 <;>
      exact awp_run rfl (by simp only [fwA, ↓reduceIte, Nat.reduceAdd, Nat.reduceMul, Nat.reduceEqDiff, Nat.reduceLT, Nat.reduceLeDiff, reduceCtorEq, un9, gc, Int.toNat_natCast, Int.natCast_nonneg, k1, k2, k3, k4, decide_true, decide_false] <;> rfl) ⟨rfl, by simp only [akeep, alook, aput, ev, k1, k2, k3, k4, decide_true, decide_false, Bool.true_and, Bool.false_and, Bool.and_true, Bool.and_false, Bool.or_true, Bool.true_or, Bool.or_false, Bool.false_or] <;> rfl, rfl, rfl⟩
  obtain ⟨rfl, hA, rfl, rfl⟩ := hq
  refine awp_keep _ hA ?_
  refine awp_seq ?_
  refine AWP.mono (Q := fun e A' H'' D' => e = .normal ∧ akeep [0, 3, 4, 5] A' = [(0, .str s), (3, .int .i64 i), (4, .bool (letB c)), (5, .bool (digB c))] ∧ H'' = H' ∧ D' = []) ?_ fun e A' H'' D' hq => ?_
  · have e1 : decide (48 ≤ (c.toNat : Int)) = decide (48 ≤ c.toNat) := decide_eq_decide.2 (by omega)
    have e2 : decide ((c.toNat : Int) ≤ 57) = decide (c.toNat ≤ 57) := decide_eq_decide.2 (by omega)
    unfold digB
    rw [← e1, ← e2]
    by_cases k1 : 48 ≤ (c.toNat : Int) <;> by_cases k2 : (c.toNat : Int) ≤ 57 <;>
      exact awp_run rfl (by simp only [fwA, ↓reduceIte, Nat.reduceAdd, Nat.reduceMul, Nat.reduceEqDiff, Nat.reduceLT, Nat.reduceLeDiff, reduceCtorEq, un9, gc, Int.toNat_natCast, Int.natCast_nonneg, k1, k2, decide_true, decide_false] <;> rfl) ⟨rfl, by simp only [akeep, alook, aput, ev, k1, k2, decide_true, decide_false, Bool.true_and, Bool.false_and, Bool.and_true, Bool.and_false] <;> rfl, rfl, rfl⟩
  obtain ⟨rfl, hA, rfl, rfl⟩ := hq
  refine awp_keep _ hA ?_
  generalize letB c = bl at hnd ⊢
  generalize digB c = bd at hnd ⊢
  have fin : nmAt i c = true → nmPre s (i + 1) := fun h => hsuc.2 ⟨hp, h⟩
  refine awp_seq ?_
  cases bl with
  | true =>
    refine awp_run rfl (by simp only [fwA, ↓reduceIte, Nat.reduceAdd, Nat.reduceMul, Nat.reduceEqDiff, Nat.reduceLT, Nat.reduceLeDiff, reduceCtorEq] <;> rfl) ?_
    refine awp_cond (b := false) (by simp only [fwA, ↓reduceIte, Nat.reduceAdd, Nat.reduceMul, Nat.reduceEqDiff, Nat.reduceLT, Nat.reduceLeDiff, reduceCtorEq] <;> rfl) (awp_skip ?_)
    refine awp_run rfl (by simp only [fwA, ↓reduceIte, Nat.reduceAdd, Nat.reduceMul, Nat.reduceEqDiff, Nat.reduceLT, Nat.reduceLeDiff, reduceCtorEq] <;> rfl) ?_
    exact ⟨i + 1, by omega, ⟨by omega, fin (by rw [hnd]; rfl)⟩, by rw [wrapS i (by omega)]; rfl, rfl, rfl⟩
  | false =>
    by_cases hz : (i : Int) = 0
    · refine awp_run rfl (by simp only [fwA, ↓reduceIte, Nat.reduceAdd, Nat.reduceMul, Nat.reduceEqDiff, Nat.reduceLT, Nat.reduceLeDiff, reduceCtorEq, hz, decide_true] <;> rfl) ?_
      refine awp_cond (b := true) (by simp only [fwA, ↓reduceIte, Nat.reduceAdd, Nat.reduceMul, Nat.reduceEqDiff, Nat.reduceLT, Nat.reduceLeDiff, reduceCtorEq] <;> rfl) ?_
      refine awp_seq (awp_run rfl (by simp only [fwA, ↓reduceIte, Nat.reduceAdd, Nat.reduceMul, Nat.reduceEqDiff, Nat.reduceLT, Nat.reduceLeDiff, reduceCtorEq] <;> rfl) (awp_ret ?_))
      exact gives_end0 (.inl rfl) (by rw [decide_eq_false (hnot (by rw [hnd, decide_eq_false (by simpa using hz)]; rfl))]; rfl)
    · cases bd with
      | true =>
        refine awp_run rfl (by simp only [fwA, ↓reduceIte, Nat.reduceAdd, Nat.reduceMul, Nat.reduceEqDiff, Nat.reduceLT, Nat.reduceLeDiff, reduceCtorEq, hz, decide_false] <;> rfl) ?_
        refine awp_cond (b := false) (by simp only [fwA, ↓reduceIte, Nat.reduceAdd, Nat.reduceMul, Nat.reduceEqDiff, Nat.reduceLT, Nat.reduceLeDiff, reduceCtorEq] <;> rfl) (awp_skip ?_)
        refine awp_run rfl (by simp only [fwA, ↓reduceIte, Nat.reduceAdd, Nat.reduceMul, Nat.reduceEqDiff, Nat.reduceLT, Nat.reduceLeDiff, reduceCtorEq] <;> rfl) ?_
        exact ⟨i + 1, by omega, ⟨by omega, fin (by rw [hnd, decide_eq_true hz]; rfl)⟩, by rw [wrapS i (by omega)]; rfl, rfl, rfl⟩
      | false =>
        refine awp_run rfl (by simp only [fwA, ↓reduceIte, Nat.reduceAdd, Nat.reduceMul, Nat.reduceEqDiff, Nat.reduceLT, Nat.reduceLeDiff, reduceCtorEq, hz, decide_false] <;> rfl) ?_
        refine awp_cond (b := true) (by simp only [fwA, ↓reduceIte, Nat.reduceAdd, Nat.reduceMul, Nat.reduceEqDiff, Nat.reduceLT, Nat.reduceLeDiff, reduceCtorEq] <;> rfl) ?_
        refine awp_seq (awp_run rfl (by simp only [fwA, ↓reduceIte, Nat.reduceAdd, Nat.reduceMul, Nat.reduceEqDiff, Nat.reduceLT, Nat.reduceLeDiff, reduceCtorEq] <;> rfl) (awp_ret ?_))
        exact gives_end0 (.inl rfl) (by rw [decide_eq_false (hnot (by rw [hnd]; simp))]; rfl)

def idxS (fr : List (List UInt8)) (a : List UInt8) : Int := match fr.findIdx? (fun b => decide (b = a)) with
  | some k => k
  | none => -1
theorem idxS_none {fr : List (List UInt8)} {a : List UInt8} (h : ∀ j, j < fr.length → fr[j]? ≠ some a) : idxS fr a = -1 := by
  unfold idxS
  have : fr.findIdx? (fun b => decide (b = a)) = none := by
    rw [List.findIdx?_eq_none_iff]
    intro x hx
    obtain ⟨j, hj⟩ := List.getElem?_of_mem hx
    have := h j (List.getElem?_eq_some_iff.1 hj).1
    rw [hj] at this
    simpa using this
  rw [this]
theorem idxS_some {fr : List (List UInt8)} {a : List UInt8} {i : Nat} (h : ∀ j, j < i → fr[j]? ≠ some a) (hi : fr[i]? = some a) : idxS fr a = i := by
  unfold idxS
  have : fr.findIdx? (fun b => decide (b = a)) = some i := by
    obtain ⟨h1, h2⟩ := List.getElem?_eq_some_iff.1 hi
    rw [List.findIdx?_eq_some_iff_getElem]
    refine ⟨h1, by simp [h2], fun j hj => ?_⟩
    have := h j hj
    rw [List.getElem?_eq_getElem (by omega)] at this
    simpa using this
  rw [this]
theorem idxS_mem (fr : List (List UInt8)) (a : List UInt8) : decide (0 ≤ idxS fr a) = decide (a ∈ fr) := by
  unfold idxS
  cases h : fr.findIdx? (fun b => decide (b = a)) with
  | none =>
    rw [List.findIdx?_eq_none_iff] at h
    exact decide_eq_decide.2 ⟨fun h => absurd h (by decide), fun hm => by simpa using h a hm⟩
  | some k =>
    obtain ⟨h1, h2, _⟩ := List.findIdx?_eq_some_iff_getElem.1 h
    have : fr[k] = a := by simpa using h2
    exact decide_eq_decide.2 ⟨fun _ => this ▸ List.getElem_mem h1, fun _ => Int.natCast_nonneg _⟩

/-- slices.Index, of texts -/
theorem c46 (Γ : Nat → PV) (fr : List (List UInt8)) (f : Bool) (a : List UInt8) : Gives Tryd.prog Γ 46 [.vec (fr.map S1) f, .str a] (.int .i64 (idxS fr a)) := by
  refine fn_of_awp Tryd.func46 rfl (by simp [Tryd.f46]) rfl fun H => ?_
  refine awp_vlen 0 rfl fun hlen => ?_
  rw [List.length_map] at hlen
  refine awp_seq ?_
  refine awp_run rfl (by simp only [fwA, ↓reduceIte, Nat.reduceAdd, Nat.reduceMul, Nat.reduceEqDiff, Nat.reduceLT, Nat.reduceLeDiff, reduceCtorEq] <;> rfl) ?_
  refine awp_seq ?_
  refine awp_seq ?_
  refine awp_run rfl (by simp only [fwA, ↓reduceIte, Nat.reduceAdd, Nat.reduceMul, Nat.reduceEqDiff, Nat.reduceLT, Nat.reduceLeDiff, reduceCtorEq, un37, List.length_map] <;> rfl) ?_
  refine awp_block ?_
  refine awp_for [0, 1, 7, 8] (fun i : Nat => [.vec (fr.map S1) f, .str a, .int .i64 fr.length, .int .i64 (i : Int)]) (fun _ => H) (fun i => fr.length - i) (fun i => i ≤ fr.length ∧ ∀ j, j < i → fr[j]? ≠ some a) 0 rfl rfl ⟨Nat.zero_le _, fun j hj => by omega⟩ fun i hs => ?_
  obtain ⟨hi, hno⟩ := hs
  refine awp_seq ?_
  refine awp_run rfl (by simp only [fwA, ↓reduceIte, Nat.reduceAdd, Nat.reduceMul, Nat.reduceEqDiff, Nat.reduceLT, Nat.reduceLeDiff, reduceCtorEq] <;> rfl) ?_
  refine awp_seq ?_
  refine awp_cond (by simp only [fwA, ↓reduceIte, Nat.reduceAdd, Nat.reduceMul, Nat.reduceEqDiff, Nat.reduceLT, Nat.reduceLeDiff, reduceCtorEq] <;> rfl) ?_
  by_cases hc : (i : Int) < fr.length
  rotate_left
  · simp only [hc, decide_false, Bool.false_eq_true, ↓reduceIte]
    refine awp_exit ?_
    refine awp_seq (awp_run rfl (by simp only [fwA, ↓reduceIte, Nat.reduceAdd, Nat.reduceMul, Nat.reduceEqDiff, Nat.reduceLT, Nat.reduceLeDiff, reduceCtorEq] <;> rfl) (awp_ret ?_))
    have hi' : i = fr.length := by omega
    rw [hi'] at hno
    exact gives_end0 (.inl rfl) (by rw [idxS_none hno]; rfl)
  simp only [hc, decide_true, ↓reduceIte]
  refine awp_skip ?_
  have hia : i < fr.length := by omega
  have ga : fr[i]? = some fr[i] := List.getElem?_eq_getElem hia
  refine awp_seq ?_
  refine awp_block ?_
  refine awp_seq ?_
  refine awp_run rfl (by simp only [fwA, ↓reduceIte, Nat.reduceAdd, Nat.reduceMul, Nat.reduceEqDiff, Nat.reduceLT, Nat.reduceLeDiff, reduceCtorEq] <;> rfl) ?_
  refine awp_seq ?_
  refine awp_run rfl (by simp only [fwA, ↓reduceIte, Nat.reduceAdd, Nat.reduceMul, Nat.reduceEqDiff, Nat.reduceLT, Nat.reduceLeDiff, reduceCtorEq, el37, ti9, List.getElem?_map, ga, Option.map_some, Int.natCast_nonneg, S1_fw] <;> rfl) ?_
  refine awp_cond (by simp only [fwA, ↓reduceIte, Nat.reduceAdd, Nat.reduceMul, Nat.reduceEqDiff, Nat.reduceLT, Nat.reduceLeDiff, reduceCtorEq] <;> rfl) ?_
  by_cases he : a = fr[i]
  · simp only [← he, decide_true, ↓reduceIte]
    have hri := idxS_some hno (ga.trans (congrArg some he.symm))
    rw [hri]
    refine awp_seq ?_
    refine awp_run rfl (by simp only [fwA, ↓reduceIte, Nat.reduceAdd, Nat.reduceMul, Nat.reduceEqDiff, Nat.reduceLT, Nat.reduceLeDiff, reduceCtorEq] <;> rfl) (awp_ret ?_)
    exact gives_end0 (.inl rfl) rfl
  simp only [he, decide_false, Bool.false_eq_true, ↓reduceIte]
  refine awp_skip ?_
  refine awp_run rfl (by simp only [fwA, ↓reduceIte, Nat.reduceAdd, Nat.reduceMul, Nat.reduceEqDiff, Nat.reduceLT, Nat.reduceLeDiff, reduceCtorEq] <;> rfl) ?_
  refine ⟨i + 1, by omega, ⟨by omega, fun j hj => ?_⟩, by rw [wrapS i (by omega)]; rfl, rfl, rfl⟩
  by_cases hji : j = i
  · subst hji; rw [ga]; simpa using fun h => he h.symm
  · exact hno j (by omega)

/-- slices.Contains, of texts -/
theorem c39 (Γ : Nat → PV) (fr : List (List UInt8)) (f : Bool) (a : List UInt8) : Gives Tryd.prog Γ 39 [.vec (fr.map S1) f, .str a] (.bool (decide (a ∈ fr))) := by
  refine fn_of_awp Tryd.func39 rfl (by simp [Tryd.f39]) rfl fun H => ?_
  refine awp_seq ?_
  refine awp_run rfl (by simp only [fwA, ↓reduceIte, Nat.reduceAdd, Nat.reduceMul, Nat.reduceEqDiff, Nat.reduceLT, Nat.reduceLeDiff, reduceCtorEq] <;> rfl) ?_
  refine awp_seq ?_
  refine awp_region rfl ?_
  refine aops_run 2 (by simp only [fwA, ↓reduceIte, Nat.reduceAdd, Nat.reduceMul, Nat.reduceEqDiff, Nat.reduceLT, Nat.reduceLeDiff, reduceCtorEq] <;> rfl) ?_
  refine aops_fn rfl rfl rfl en46 (c46 Γ fr f a) ?_
  refine aops_run 2 (by simp only [fwA, ↓reduceIte, Nat.reduceAdd, Nat.reduceMul, Nat.reduceEqDiff, Nat.reduceLT, Nat.reduceLeDiff, reduceCtorEq] <;> rfl) ?_
  exact awp_ret (gives_end0 (.inl rfl) (by rw [← idxS_mem]; rfl))

/-- chancelref02.Has -/
theorem c48 (Γ : Nat → PV) (fr : List (List UInt8)) (f : Bool) (a : List UInt8) : Gives Tryd.prog Γ 48 [.vec (fr.map S1) f, .str a] (.bool (decide (a ∈ fr))) := by
  refine fn_of_awp Tryd.func48 rfl (by simp [Tryd.f48]) rfl fun H => ?_
  refine awp_vlen 0 rfl fun hlen => ?_
  rw [List.length_map] at hlen
  refine awp_seq ?_
  refine awp_run rfl (by simp only [fwA, ↓reduceIte, Nat.reduceAdd, Nat.reduceMul, Nat.reduceEqDiff, Nat.reduceLT, Nat.reduceLeDiff, reduceCtorEq] <;> rfl) ?_
  refine awp_seq ?_
  refine awp_seq ?_
  refine awp_run rfl (by simp only [fwA, ↓reduceIte, Nat.reduceAdd, Nat.reduceMul, Nat.reduceEqDiff, Nat.reduceLT, Nat.reduceLeDiff, reduceCtorEq] <;> rfl) ?_
  refine awp_block ?_
  refine awp_for [0, 1, 5] (fun i : Nat => [.vec (fr.map S1) f, .str a, .int .i64 (i : Int)]) (fun _ => H) (fun i => fr.length - i) (fun i => i ≤ fr.length ∧ ∀ j, j < i → fr[j]? ≠ some a) 0 rfl rfl ⟨Nat.zero_le _, fun j hj => by omega⟩ fun i hs => ?_
  obtain ⟨hi, hno⟩ := hs
  refine awp_seq ?_
  refine awp_seq ?_
  refine awp_run rfl (by simp only [fwA, ↓reduceIte, Nat.reduceAdd, Nat.reduceMul, Nat.reduceEqDiff, Nat.reduceLT, Nat.reduceLeDiff, reduceCtorEq, un37, List.length_map] <;> rfl) ?_
  refine awp_cond (by simp only [fwA, ↓reduceIte, Nat.reduceAdd, Nat.reduceMul, Nat.reduceEqDiff, Nat.reduceLT, Nat.reduceLeDiff, reduceCtorEq] <;> rfl) ?_
  by_cases hc : (i : Int) < fr.length
  rotate_left
  · simp only [hc, decide_false, Bool.false_eq_true, ↓reduceIte]
    refine awp_exit ?_
    refine awp_seq (awp_run rfl (by simp only [fwA, ↓reduceIte, Nat.reduceAdd, Nat.reduceMul, Nat.reduceEqDiff, Nat.reduceLT, Nat.reduceLeDiff, reduceCtorEq] <;> rfl) (awp_ret ?_))
    have hi' : i = fr.length := by omega
    rw [hi'] at hno
    have hn : ¬ a ∈ fr := fun hm => by
      obtain ⟨j, hj⟩ := List.getElem?_of_mem hm
      exact hno j (List.getElem?_eq_some_iff.1 hj).1 hj
    exact gives_end0 (.inl rfl) (by rw [decide_eq_false hn]; rfl)
  simp only [hc, decide_true, ↓reduceIte]
  refine awp_skip ?_
  have hia : i < fr.length := by omega
  have ga : fr[i]? = some fr[i] := List.getElem?_eq_getElem hia
  refine awp_seq ?_
  refine awp_block ?_
  refine awp_seq ?_
  refine awp_run rfl (by simp only [fwA, ↓reduceIte, Nat.reduceAdd, Nat.reduceMul, Nat.reduceEqDiff, Nat.reduceLT, Nat.reduceLeDiff, reduceCtorEq, el37, ti9, List.getElem?_map, ga, Option.map_some, Int.natCast_nonneg, S1_fw] <;> rfl) ?_
  refine awp_cond (by simp only [fwA, ↓reduceIte, Nat.reduceAdd, Nat.reduceMul, Nat.reduceEqDiff, Nat.reduceLT, Nat.reduceLeDiff, reduceCtorEq] <;> rfl) ?_
  by_cases he : fr[i] = a
  · simp only [he, decide_true, ↓reduceIte]
    refine awp_seq (awp_run rfl (by simp only [fwA, ↓reduceIte, Nat.reduceAdd, Nat.reduceMul, Nat.reduceEqDiff, Nat.reduceLT, Nat.reduceLeDiff, reduceCtorEq] <;> rfl) (awp_ret ?_))
    exact gives_end0 (.inl rfl) (by rw [decide_eq_true (show a ∈ fr from he ▸ List.getElem_mem hia)]; rfl)
  simp only [he, decide_false, Bool.false_eq_true, ↓reduceIte]
  refine awp_skip ?_
  refine awp_run rfl (by simp only [fwA, ↓reduceIte, Nat.reduceAdd, Nat.reduceMul, Nat.reduceEqDiff, Nat.reduceLT, Nat.reduceLeDiff, reduceCtorEq] <;> rfl) ?_
  refine ⟨i + 1, by omega, ⟨by omega, fun j hj => ?_⟩, by rw [wrapS i (by omega)]; rfl, rfl, rfl⟩
  by_cases hji : j = i
  · subst hji; rw [ga]; simpa using he
  · exact hno j (by omega)

/-- chancellaw03.has -/
theorem c25 (Γ : Nat → PV) (fr : List (List UInt8)) (f : Bool) (a : List UInt8) : Gives Tryd.prog Γ 25 [.vec (fr.map S1) f, .str a] (.bool (decide (a ∈ fr))) := by
  refine fn_of_awp Tryd.func25 rfl (by simp [Tryd.f25]) rfl fun H => ?_
  refine awp_vlen 0 rfl fun hlen => ?_
  rw [List.length_map] at hlen
  refine awp_seq ?_
  refine awp_run rfl (by simp only [fwA, ↓reduceIte, Nat.reduceAdd, Nat.reduceMul, Nat.reduceEqDiff, Nat.reduceLT, Nat.reduceLeDiff, reduceCtorEq] <;> rfl) ?_
  refine awp_seq ?_
  refine awp_seq ?_
  refine awp_run rfl (by simp only [fwA, ↓reduceIte, Nat.reduceAdd, Nat.reduceMul, Nat.reduceEqDiff, Nat.reduceLT, Nat.reduceLeDiff, reduceCtorEq] <;> rfl) ?_
  refine awp_block ?_
  refine awp_for [0, 1, 5] (fun i : Nat => [.vec (fr.map S1) f, .str a, .int .i64 (i : Int)]) (fun _ => H) (fun i => fr.length - i) (fun i => i ≤ fr.length ∧ ∀ j, j < i → fr[j]? ≠ some a) 0 rfl rfl ⟨Nat.zero_le _, fun j hj => by omega⟩ fun i hs => ?_
  obtain ⟨hi, hno⟩ := hs
  refine awp_seq ?_
  refine awp_seq ?_
  refine awp_run rfl (by simp only [fwA, ↓reduceIte, Nat.reduceAdd, Nat.reduceMul, Nat.reduceEqDiff, Nat.reduceLT, Nat.reduceLeDiff, reduceCtorEq, un37, List.length_map] <;> rfl) ?_
  refine awp_cond (by simp only [fwA, ↓reduceIte, Nat.reduceAdd, Nat.reduceMul, Nat.reduceEqDiff, Nat.reduceLT, Nat.reduceLeDiff, reduceCtorEq] <;> rfl) ?_
  by_cases hc : (i : Int) < fr.length
  rotate_left
  · simp only [hc, decide_false, Bool.false_eq_true, ↓reduceIte]
    refine awp_exit ?_
    refine awp_seq (awp_run rfl (by simp only [fwA, ↓reduceIte, Nat.reduceAdd, Nat.reduceMul, Nat.reduceEqDiff, Nat.reduceLT, Nat.reduceLeDiff, reduceCtorEq] <;> rfl) (awp_ret ?_))
    have hi' : i = fr.length := by omega
    rw [hi'] at hno
    have hn : ¬ a ∈ fr := fun hm => by
      obtain ⟨j, hj⟩ := List.getElem?_of_mem hm
      exact hno j (List.getElem?_eq_some_iff.1 hj).1 hj
    exact gives_end0 (.inl rfl) (by rw [decide_eq_false hn]; rfl)
  simp only [hc, decide_true, ↓reduceIte]
  refine awp_skip ?_
  have hia : i < fr.length := by omega
  have ga : fr[i]? = some fr[i] := List.getElem?_eq_getElem hia
  refine awp_seq ?_
  refine awp_block ?_
  refine awp_seq ?_
  refine awp_run rfl (by simp only [fwA, ↓reduceIte, Nat.reduceAdd, Nat.reduceMul, Nat.reduceEqDiff, Nat.reduceLT, Nat.reduceLeDiff, reduceCtorEq, el37, ti9, List.getElem?_map, ga, Option.map_some, Int.natCast_nonneg, S1_fw] <;> rfl) ?_
  refine awp_cond (by simp only [fwA, ↓reduceIte, Nat.reduceAdd, Nat.reduceMul, Nat.reduceEqDiff, Nat.reduceLT, Nat.reduceLeDiff, reduceCtorEq] <;> rfl) ?_
  by_cases he : fr[i] = a
  · simp only [he, decide_true, ↓reduceIte]
    refine awp_seq (awp_run rfl (by simp only [fwA, ↓reduceIte, Nat.reduceAdd, Nat.reduceMul, Nat.reduceEqDiff, Nat.reduceLT, Nat.reduceLeDiff, reduceCtorEq] <;> rfl) (awp_ret ?_))
    exact gives_end0 (.inl rfl) (by rw [decide_eq_true (show a ∈ fr from he ▸ List.getElem_mem hia)]; rfl)
  simp only [he, decide_false, Bool.false_eq_true, ↓reduceIte]
  refine awp_skip ?_
  refine awp_run rfl (by simp only [fwA, ↓reduceIte, Nat.reduceAdd, Nat.reduceMul, Nat.reduceEqDiff, Nat.reduceLT, Nat.reduceLeDiff, reduceCtorEq] <;> rfl) ?_
  refine ⟨i + 1, by omega, ⟨by omega, fun j hj => ?_⟩, by rw [wrapS i (by omega)]; rfl, rfl, rfl⟩
  by_cases hji : j = i
  · subst hji; rw [ga]; simpa using he
  · exact hno j (by omega)

/-- The program's package-level variables: what kinds have, the operators, the words that are no names. -/
def Tab (Γ : Nat → PV) : Prop := Γ 0 = .cptr (kidsTab.map fun z => .int .i64 z) ∧ Γ 1 = .cptr (opNs.map .str) ∧ Γ 2 = .cptr (kws.map .str)
theorem ar59 : arOf Tryd.prog 59 = some (5, 1) := by kernel_rfl
theorem ar63 : arOf Tryd.prog 63 = some (14, 1) := by kernel_rfl

/-- lex.Keyword -/
theorem c38 (Γ : Nat → PV) (hΓ : Tab Γ) (s : List UInt8) : Gives Tryd.prog Γ 38 [.str s] (.bool (decide (s ∈ kws))) := by
  refine fn_of_awp Tryd.func38 rfl (by simp [Tryd.f38]) rfl fun H => ?_
  refine awp_seq ?_
  refine awp_run rfl (by simp only [fwA, ↓reduceIte, Nat.reduceAdd, Nat.reduceMul, Nat.reduceEqDiff, Nat.reduceLT, Nat.reduceLeDiff, reduceCtorEq] <;> rfl) ?_
  refine awp_seq ?_
  refine awp_region rfl ?_
  refine aops_one rfl (os_sliceArr rfl ar63 (show ev Γ _ (.global 2) = _ from hΓ.2.2) rfl (by decide) (by decide) ?_)
  refine aops_run 1 (by simp only [fwA, ↓reduceIte, Nat.reduceAdd, Nat.reduceMul, Nat.reduceEqDiff, Nat.reduceLT, Nat.reduceLeDiff, reduceCtorEq] <;> rfl) ?_
  refine aops_fn rfl rfl rfl en39 (c39 Γ kws true s) ?_
  refine aops_run 1 (by simp only [fwA, ↓reduceIte, Nat.reduceAdd, Nat.reduceMul, Nat.reduceEqDiff, Nat.reduceLT, Nat.reduceLeDiff, reduceCtorEq] <;> rfl) ?_
  exact awp_ret (gives_end0 (.inl rfl) rfl)
/-- chancelref02.Keyword -/
theorem c54 (Γ : Nat → PV) (s : List UInt8) : Gives Tryd.prog Γ 54 [.str s] (.bool (decide (s ∈ kws))) := by
  refine fn_of_awp Tryd.func54 rfl (by simp [Tryd.f54]) rfl fun H => ?_
  refine awp_seq ?_
  refine awp_run rfl (by simp only [fwA, ↓reduceIte, Nat.reduceAdd, Nat.reduceMul, Nat.reduceEqDiff, Nat.reduceLT, Nat.reduceLeDiff, reduceCtorEq] <;> rfl) ?_
  refine awp_seq ?_
  refine awp_region rfl ?_
  refine aops_run 2 (by simp only [fwA, ↓reduceIte, Nat.reduceAdd, Nat.reduceMul, Nat.reduceEqDiff, Nat.reduceLT, Nat.reduceLeDiff, reduceCtorEq, un37, ti9] <;> rfl) ?_
  refine aops_fn rfl rfl rfl en48 (c48 Γ kws true s) ?_
  refine aops_run 1 (by simp only [fwA, ↓reduceIte, Nat.reduceAdd, Nat.reduceMul, Nat.reduceEqDiff, Nat.reduceLT, Nat.reduceLeDiff, reduceCtorEq] <;> rfl) ?_
  exact awp_ret (gives_end0 (.inl rfl) rfl)
/-- chancelref03.Word -/
theorem c49 (Γ : Nat → PV) (s : List UInt8) : Gives Tryd.prog Γ 49 [.str s] (.bool (decide (wordP s))) := by
  refine fn_of_awp Tryd.func49 rfl (by simp [Tryd.f49]) rfl fun H => ?_
  refine awp_seq ?_
  refine awp_run rfl (by simp only [fwA, ↓reduceIte, Nat.reduceAdd, Nat.reduceMul, Nat.reduceEqDiff, Nat.reduceLT, Nat.reduceLeDiff, reduceCtorEq] <;> rfl) ?_
  refine awp_seq ?_
  refine awp_region rfl ?_
  refine aops_run 1 (by simp only [fwA, ↓reduceIte, Nat.reduceAdd, Nat.reduceMul, Nat.reduceEqDiff, Nat.reduceLT, Nat.reduceLeDiff, reduceCtorEq] <;> rfl) ?_
  refine aops_fn rfl rfl rfl en53 (c53 Γ s) ?_
  by_cases h1 : nameP s
  rotate_left
  · refine aops_run 6 (by simp only [fwA, ↓reduceIte, Nat.reduceAdd, Nat.reduceMul, Nat.reduceEqDiff, Nat.reduceLT, Nat.reduceLeDiff, reduceCtorEq, h1, decide_false] <;> rfl) ?_
    exact awp_ret (gives_end0 (.inl rfl) (by rw [decide_eq_false (fun e => h1 e.1)]; rfl))
  refine aops_run 2 (by simp only [fwA, ↓reduceIte, Nat.reduceAdd, Nat.reduceMul, Nat.reduceEqDiff, Nat.reduceLT, Nat.reduceLeDiff, reduceCtorEq, h1, decide_true] <;> rfl) ?_
  refine aops_fnIf rfl rfl rfl rfl rfl en54 (c54 Γ s) ?_
  by_cases h2 : s ∈ kws
  · refine aops_run 3 (by simp only [fwA, ↓reduceIte, Nat.reduceAdd, Nat.reduceMul, Nat.reduceEqDiff, Nat.reduceLT, Nat.reduceLeDiff, reduceCtorEq, h2, decide_true] <;> rfl) ?_
    exact awp_ret (gives_end0 (.inl rfl) (by rw [decide_eq_false (fun e => e.2 h2)]; rfl))
  · refine aops_run 3 (by simp only [fwA, ↓reduceIte, Nat.reduceAdd, Nat.reduceMul, Nat.reduceEqDiff, Nat.reduceLT, Nat.reduceLeDiff, reduceCtorEq, h2, decide_false] <;> rfl) ?_
    exact awp_ret (gives_end0 (.inl rfl) (by rw [decide_eq_true (show wordP s from ⟨h1, h2⟩)]; rfl))

/-- chancellaw03.texts -/
theorem c19 (Γ : Nat → PV) (a b : List (List UInt8)) (f g : Bool) : Gives Tryd.prog Γ 19 [.vec (a.map S1) f, .vec (b.map S1) g] (.bool (decide (a = b))) := by
  refine fn_of_awp Tryd.func19 rfl (by simp [Tryd.f19]) rfl fun H => ?_
  refine awp_vlen 0 rfl fun hlen => ?_
  rw [List.length_map] at hlen
  refine awp_seq ?_
  refine awp_run rfl (by simp only [fwA, ↓reduceIte, Nat.reduceAdd, Nat.reduceMul, Nat.reduceEqDiff, Nat.reduceLT, Nat.reduceLeDiff, reduceCtorEq] <;> rfl) ?_
  refine awp_seq ?_
  refine awp_seq ?_
  refine awp_run rfl (by simp only [fwA, ↓reduceIte, Nat.reduceAdd, Nat.reduceMul, Nat.reduceEqDiff, Nat.reduceLT, Nat.reduceLeDiff, reduceCtorEq, un37, List.length_map] <;> rfl) ?_
  refine awp_cond (by simp only [fwA, ↓reduceIte, Nat.reduceAdd, Nat.reduceMul, Nat.reduceEqDiff, Nat.reduceLT, Nat.reduceLeDiff, reduceCtorEq] <;> rfl) ?_
  by_cases hl : (a.length : Int) = b.length
  rotate_left
  · simp only [hl, decide_false, Bool.not_false, ↓reduceIte]
    refine awp_seq (awp_run rfl (by simp only [fwA, ↓reduceIte, Nat.reduceAdd, Nat.reduceMul, Nat.reduceEqDiff, Nat.reduceLT, Nat.reduceLeDiff, reduceCtorEq] <;> rfl) (awp_ret ?_))
    exact gives_end0 (.inl rfl) (by rw [decide_eq_false (fun e => hl (by rw [e]))]; rfl)
  simp only [hl, decide_true, Bool.not_true, Bool.false_eq_true, ↓reduceIte]
  refine awp_skip ?_
  have hl' : a.length = b.length := by omega
  refine awp_seq ?_
  refine awp_seq ?_
  refine awp_run rfl (by simp only [fwA, ↓reduceIte, Nat.reduceAdd, Nat.reduceMul, Nat.reduceEqDiff, Nat.reduceLT, Nat.reduceLeDiff, reduceCtorEq] <;> rfl) ?_
  refine awp_block ?_
  refine awp_for [0, 1, 5] (fun i : Nat => [.vec (a.map S1) f, .vec (b.map S1) g, .int .i64 (i : Int)]) (fun _ => H) (fun i => a.length - i) (fun i => i ≤ a.length ∧ a.take i = b.take i) 0 rfl rfl ⟨Nat.zero_le _, rfl⟩ fun i hi => ?_
  refine awp_seq ?_
  refine awp_seq ?_
  refine awp_run rfl (by simp only [fwA, ↓reduceIte, Nat.reduceAdd, Nat.reduceMul, Nat.reduceEqDiff, Nat.reduceLT, Nat.reduceLeDiff, reduceCtorEq, un37, List.length_map] <;> rfl) ?_
  refine awp_cond (by simp only [fwA, ↓reduceIte, Nat.reduceAdd, Nat.reduceMul, Nat.reduceEqDiff, Nat.reduceLT, Nat.reduceLeDiff, reduceCtorEq] <;> rfl) ?_
  by_cases hc : (i : Int) < a.length
  rotate_left
  · simp only [hc, decide_false, Bool.false_eq_true, ↓reduceIte]
    refine awp_exit ?_
    have hi' : i = a.length := by omega
    have e : a = b := by
      have := hi.2
      rwa [hi', List.take_length, hl', List.take_length] at this
    refine awp_seq (awp_run rfl (by simp only [fwA, ↓reduceIte, Nat.reduceAdd, Nat.reduceMul, Nat.reduceEqDiff, Nat.reduceLT, Nat.reduceLeDiff, reduceCtorEq] <;> rfl) (awp_ret ?_))
    exact gives_end0 (.inl rfl) (by rw [decide_eq_true e]; rfl)
  simp only [hc, decide_true, ↓reduceIte]
  refine awp_skip ?_
  have hia : i < a.length := by omega
  have ga : a[i]? = some a[i] := List.getElem?_eq_getElem hia
  have gb : b[i]? = some (b[i]'(by omega)) := List.getElem?_eq_getElem (by omega)
  refine awp_seq ?_
  refine awp_block ?_
  refine awp_seq ?_
  refine awp_drun [0, 0, 0, 1, 0, 0, 0, 1, 0] [0, 0, 3, 7, 0, 0, 48, 112, 255] mixed rfl (by kernel_rfl) (by simp only [fwA, ↓reduceIte, Nat.reduceAdd, Nat.reduceMul, Nat.reduceEqDiff, Nat.reduceLT, Nat.reduceLeDiff, reduceCtorEq, el37, ti9, List.getElem?_map, ga, gb, Option.map_some, Int.natCast_nonneg, S1_fw] <;> rfl) ?_
  refine awp_cond (by simp only [fwA, ↓reduceIte, Nat.reduceAdd, Nat.reduceMul, Nat.reduceEqDiff, Nat.reduceLT, Nat.reduceLeDiff, reduceCtorEq] <;> rfl) ?_
  by_cases hk : a[i] = b[i]'(by omega)
  rotate_left
  · simp only [hk, decide_false, Bool.not_false, ↓reduceIte]
    refine awp_seq (awp_run rfl (by simp only [fwA, ↓reduceIte, Nat.reduceAdd, Nat.reduceMul, Nat.reduceEqDiff, Nat.reduceLT, Nat.reduceLeDiff, reduceCtorEq] <;> rfl) (awp_ret ?_))
    exact gives_end0 (.inl rfl) (by rw [decide_eq_false (fun e => hk (by subst e; rfl))]; rfl)
  simp only [hk, decide_true, Bool.not_true, Bool.false_eq_true, ↓reduceIte]
  refine awp_skip ?_
  refine awp_run rfl (by simp only [fwA, ↓reduceIte, Nat.reduceAdd, Nat.reduceMul, Nat.reduceEqDiff, Nat.reduceLT, Nat.reduceLeDiff, reduceCtorEq] <;> rfl) ?_
  exact ⟨i + 1, by omega, ⟨by omega, by rw [List.take_add_one, List.take_add_one, hi.2, ga, gb, hk]⟩, by rw [wrapS i (by omega)]; rfl, rfl, rfl⟩

end Go.Proofs.YtlbmlhpjibgepaaDoor
