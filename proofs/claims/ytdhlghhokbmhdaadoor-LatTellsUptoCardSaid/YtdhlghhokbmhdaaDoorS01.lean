/- The rows' common ground of this chapter: the library's table, the witness's world. -/
import Derived.Test.YtdhlghhokbmhdaaDoorCards
import Derived.Test.YtdhlghhokbmhdaaDoorTie
import Derived.Test.YtdhlghhokbmhdaaDoorT01a
import Derived.Stop.LaidErr
import Derived.Shelf.Vars
namespace Go.Proofs.YtdhlghhokbmhdaaDoor
set_option linter.unusedVariables false
set_option linter.unusedSimpArgs false
set_option maxRecDepth 100000
open Go.ChangeShapes Go.WideShapes Go.ChangeAt Go.RowKit Fw

theorem own : ownKnob Tryd.prog.godebug = none := by kernel_rfl
theorem gTab : Tryd.prog.globalNamed "math/bits.deBruijn64tab" = some 0 := by kernel_rfl
theorem gTabType : (Tryd.prog.globals[0]?).map (·.type) = some 94 := by kernel_rfl
theorem cells94 : Tryd.prog.cellsOf 94 = 64 := by kernel_rfl
theorem cells5 : Tryd.prog.cellsOf 5 = 1 := by kernel_rfl

/-- What the rows' list gives: the library's table. -/
theorem table {W : World} (h : laidMetH Tryd.prog Rows.latJoinsRow.laid W) : Lib.TabIs Tryd.prog W "math/bits.deBruijn64tab" .u8 T64 :=
  Lib.tabIs_of_head (zs := T64) gTab gTabType Tryd.underlying94 Tryd.underlying5 cells5 cells94 h
/-- What every row gives of a variable of the library's: it holds some number. -/
theorem maxIs {W : World} (h : W.ShapedOpen Tryd.prog) : ∃ m : Int, Lib.TabIs Tryd.prog W "internal/bytealg.MaxLen" .i64 [m] := by
  have h0 : ((begin Tryd.prog (fun _ _ => 0) default).world.heap[1]?).bind Obj.row? = some (#[.int .i64 0], 3) := by kernel_rfl
  obtain ⟨m, hm⟩ := cell_of_shapedOpen_int (k := .i64) h (by decide) h0 rfl (by kernel_rfl) (by kernel_rfl) Tryd.underlying3
  obtain ⟨cs, hh, hs, _⟩ := h.1 1 _ _ (by decide) h0
  refine ⟨m, ?_⟩
  unfold Lib.TabIs World.var?
  rw [gMax]
  simp only [Option.bind_some, hh, Option.some.injEq]
  simp only [World.cell?, hh] at hm
  refine Array.ext (by simpa using hs) fun i hi hi' => ?_
  have hi0 : i = 0 := by simp at hi'; omega
  subst hi0
  rw [Array.getElem?_eq_getElem hi] at hm
  simpa using hm

theorem sim_any {W : World} {Γ : Nat → PV} (h : ∀ g, Γ g = .any ∨ ∃ (name : String) (k : IntKind) (zs : List Int), Tryd.prog.globalNamed name = some g ∧ Lib.TabIs Tryd.prog W name k zs ∧ Γ g = .cptr (zs.map fun z => .int k z)) : Sim Γ W (ofW W) [] W := by
  refine sim_ofW (fun g => ?_) fun g cs hg => ?_
  · rcases h g with e | ⟨name, k, zs, hn, ht, e⟩
    · rw [e]; exact .any _ _
    · have := (sim_tab hn ht).glob g
      unfold tabΓ at this
      rw [if_pos rfl] at this
      rw [e]; exact this
  · rcases h g with e | ⟨name, k, zs, hn, ht, e⟩
    · rw [e] at hg; cases hg
    · refine (sim_tab hn ht).tab g cs ?_
      unfold tabΓ
      rw [if_pos rfl, ← e, hg]
/-- The program's package-level variables: of the table all is known, of the other one that it holds a number. -/
def ΓM (m : Int) : Nat → PV := fun g => if g = 0 then .cptr (T64.map fun z => .int .u8 z) else if g = 1 then .cptr (([m] : List Int).map fun z => .int .i64 z) else .any
theorem tabΓM (m : Int) : Tab (ΓM m) := ⟨rfl, m, rfl⟩
theorem sim0 {W : World} (h : laidMetH Tryd.prog Rows.latJoinsRow.laid W) (hs : W.ShapedOpen Tryd.prog) : ∃ m, Sim (ΓM m) W (ofW W) [] W := by
  obtain ⟨m, hm⟩ := maxIs hs
  refine ⟨m, sim_any fun g => ?_⟩
  by_cases h0 : g = 0
  · subst h0; exact .inr ⟨_, _, _, gTab, table h, rfl⟩
  by_cases h1 : g = 1
  · subst h1; exact .inr ⟨_, _, _, gMax, hm, rfl⟩
  · left
    unfold ΓM
    rw [if_neg h0, if_neg h1]

/-- A world for the witness: the settled one, the tables as their initialisers lay them. -/
noncomputable def laidWorld (os : Os) : World :=
  let w := World.holding Tryd.prog os ⟨#[], #[], []⟩
  let put (b : Nat) (k : IntKind) (zs : List Int) (h : Array Obj) : Array Obj := h.modify b fun
      | .cells _ t frozen => .cells (zs.map fun z => .int k z).toArray t frozen
      | o => o
  { w with heap := put 2 .u8 (Go.Pinned.utf8FirstZ.map fun z : Nat => (z : Int)) (put 3 .u8 [128, 191, 160, 191, 128, 159, 144, 191, 128, 143, 0, 0, 0, 0, 0, 0, 0, 0, 0, 0, 0, 0, 0, 0, 0, 0, 0, 0, 0, 0, 0, 0] (put 0 .u8 T64 w.heap)) }

/-- A word of what is read. -/
theorem u8_wf {n : Int} (h : (Lit.int .u8 n).wf = true) : 0 ≤ n ∧ n < 256 := by
  have h2 := int_wf h
  have h3 : IntKind.u8.min = 0 := by decide
  have h4 : IntKind.u8.max = 255 := by decide
  omega
theorem u64_wf {n : Int} (h : (Lit.int .u64 n).wf = true) : 0 ≤ n ∧ n < 18446744073709551616 := by
  have h2 := int_wf h
  have h3 : IntKind.u64.min = 0 := by decide
  have h4 : IntKind.u64.max = 18446744073709551615 := by decide
  omega
/-- A lattice as it is read: its names, its rows. -/
def laR (x : List (List UInt8) × List Int) : List PV := [.vec (x.1.map S1) false, .vec (x.2.map fun n => [.int .u64 n]) false]
def LaOk (x : List (List UInt8) × List Int) : Prop := (x.1.length * Tryd.prog.bytesOf 9 ≤ reachBytes ∧ ∀ y ∈ x.1, y.length ≤ reachBytes) ∧ (x.2.length * Tryd.prog.bytesOf 50 ≤ reachBytes ∧ ∀ y ∈ x.2, (Lit.int .u64 y).wf = true)
theorem ce9 : 0 < Tryd.prog.cellsOf 9 := of_decide_eq_true (by kernel_rfl)
theorem ce50 : 0 < Tryd.prog.cellsOf 50 := of_decide_eq_true (by kernel_rfl)
theorem laR_eq {x : List (List UInt8) × List Int} (h : LaOk x) : PV.agg (laR x) = .agg [.vec (x.1.map S1) false, .vec ((x.2.map Int.toNat).map U1) false] := by
  unfold laR
  rw [List.map_map]
  congr 3
  have : (x.2.map fun n => [PV.int .u64 n]) = x.2.map (U1 ∘ Int.toNat) := List.map_congr_left fun n hn => by
    have := u64_wf (h.2.2 n hn)
    show [PV.int .u64 n] = [.int .u64 ((n.toNat : Nat) : Int)]
    rw [Int.toNat_of_nonneg this.1]
  rw [this]
theorem la_w64 {x : List (List UInt8) × List Int} (h : LaOk x) : W64 (x.2.map Int.toNat) := fun y hy => by
  obtain ⟨n, hn, rfl⟩ := List.mem_map.1 hy
  have := u64_wf (h.2.2 n hn)
  omega
theorem dec_ns (W : World) : ∀ n, DecAt Tryd.prog W n 22 (fun l : List (List UInt8) => [.vec (l.map S1) false]) (fun l => l.length * Tryd.prog.bytesOf 9 ≤ reachBytes ∧ ∀ y ∈ l, y.length ≤ reachBytes)
  | 0 => DecAt.zero
  | _ + 1 => dec_slice Tryd.underlying22 ce9 (dec_str Tryd.underlying9)
theorem dec_us (W : World) : ∀ n, DecAt Tryd.prog W n 23 (fun l : List Int => [.vec (l.map fun n => [.int .u64 n]) false]) (fun l => l.length * Tryd.prog.bytesOf 50 ≤ reachBytes ∧ ∀ y ∈ l, (Lit.int .u64 y).wf = true)
  | 0 => DecAt.zero
  | _ + 1 => dec_slice Tryd.underlying23 ce50 (dec_int Tryd.underlying50)
theorem dec_la (W : World) : ∀ n, DecAt Tryd.prog W n 25 laR LaOk
  | 0 => DecAt.zero
  | n + 1 => by
    have h := dec_struct Tryd.underlying25 (by kernel_rfl) (decF_cons rfl (by kernel_rfl) (dec_ns W n) (decF_last rfl (dec_us W n)))
    exact h
theorem reads_la (W : World) : ReadsArg Tryd.prog W 25 (fun x : List (List UInt8) × List Int => .agg (laR x)) LaOk := reads_struct Tryd.underlying25 fun n => dec_la W n

end Go.Proofs.YtdhlghhokbmhdaaDoor
