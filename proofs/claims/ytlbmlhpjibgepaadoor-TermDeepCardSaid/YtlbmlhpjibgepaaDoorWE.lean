/- The library's contracts on a map's keys, collected and sorted, at this program's numbers (printed by a tool of mine; each line is compared by the kernel). -/
import Derived.Test.YtlbmlhpjibgepaaDoorWB
import Derived.Test.YtlbmlhpjibgepaaDoorProg
import Derived.Shelf.SlIter.Nil
import Derived.Shelf.SortM.Plain
import Derived.Shelf.SortM.SortNone
import Derived.Test.YtlbmlhpjibgepaaDoorWC
import Derived.Test.YtlbmlhpjibgepaaDoorWD
namespace Go.Proofs.YtlbmlhpjibgepaaDoor
set_option linter.unusedVariables false
set_option linter.unusedSimpArgs false
set_option maxRecDepth 100000
open Go.RowKit Go.Shelf
def sorted34_ren : Go.Shelf.Ren := { f := fun x => match x with | 6 => 34 | 8 => 42 | 9 => 43 | 11 => 50 | 13 => 52 | 12 => 51 | 23 => 64 | 24 => 65 | 14 => 55 | 15 => 56 | 16 => 57 | 17 => 58 | 18 => 59 | 19 => 60 | 20 => 61 | 21 => 62 | 22 => 63 | 25 => 66 | 26 => 67 | 27 => 68 | 28 => 69 | 29 => 70 | 30 => 71 | 31 => 72 | n => n, t := fun x => match x with | 26 => 9 | 28 => 54 | 24 => 37 | 0 => 0 | 3 => 3 | 37 => 69 | 48 => 80 | 50 => 82 | 4 => 4 | 40 => 72 | 39 => 71 | 45 => 77 | 5 => 5 | 9 => 9 | 51 => 83 | 55 => 87 | 57 => 89 | 58 => 90 | 33 => 58 | n => n, g := fun x => have n := x; n }
theorem sorted34 : Go.Proofs.SlLaysZ.n6 Tryd.prog sorted34_ren where
  mixed := by kernel_rfl
  f6 := ⟨"slices.Sorted[string]", of_decide_eq_true (by kernel_rfl), Tryd.func34.trans (congrArg some (by kernel_rfl))⟩
  f8 := ⟨"slices.Collect[string]", of_decide_eq_true (by kernel_rfl), Tryd.func42.trans (congrArg some (by kernel_rfl))⟩
  f11 := ⟨"slices.AppendSeq[[]string,string]", of_decide_eq_true (by kernel_rfl), Tryd.func50.trans (congrArg some (by kernel_rfl))⟩
  t0 := Tryd.underlying0
  a0 := Tryd.isAgg0
  z0 := Tryd.sizeOf0
  v0 := Tryd.zeroValue0
  t24 := Tryd.underlying37
  a24 := Tryd.isAgg37
  z24 := Tryd.sizeOf37
  v24 := Tryd.zeroValue37
  t26 := Tryd.underlying9
  a26 := Tryd.isAgg9
  z26 := Tryd.sizeOf9
  v26 := Tryd.zeroValue9
  t28 := Tryd.underlying54
  a28 := Tryd.isAgg54
  z28 := Tryd.sizeOf54
  v28 := Tryd.zeroValue54
  i26 := by kernel_rfl
def keysit44_ren : Go.Shelf.Ren := { f := fun x => match x with | 10 => 44 | n => n, t := fun x => match x with | 33 => 58 | 23 => 50 | 0 => 0 | 4 => 4 | 26 => 9 | 3 => 3 | n => n, g := fun x => have n := x; n }
theorem keysit44 : Go.Proofs.SlLaysZ.n10 Tryd.prog keysit44_ren where
  mixed := by kernel_rfl
  f10 := ⟨"maps.Keys[map[string]int,string,int]$1", of_decide_eq_true (by kernel_rfl), Tryd.func44.trans (congrArg some (by kernel_rfl))⟩
  t0 := Tryd.underlying0
  a0 := Tryd.isAgg0
  z0 := Tryd.sizeOf0
  v0 := Tryd.zeroValue0
  t4 := Tryd.underlying4
  a4 := Tryd.isAgg4
  z4 := Tryd.sizeOf4
  v4 := Tryd.zeroValue4
  t23 := Tryd.underlying50
  a23 := Tryd.isAgg50
  z23 := Tryd.sizeOf50
  v23 := Tryd.zeroValue50
  t26 := Tryd.underlying9
  a26 := Tryd.isAgg9
  z26 := Tryd.sizeOf9
  v26 := Tryd.zeroValue9
  t33 := Tryd.underlying58
  a33 := Tryd.isAgg58
  z33 := Tryd.sizeOf58
  v33 := Tryd.zeroValue58
def sort43_ren : Go.Shelf.Ren := { f := fun x => match x with | 6 => 43 | 8 => 52 | 9 => 51 | 19 => 64 | 20 => 65 | 21 => 55 | 22 => 56 | 23 => 57 | 24 => 58 | 25 => 59 | 26 => 60 | 27 => 61 | 28 => 62 | 29 => 63 | 36 => 66 | 31 => 67 | 32 => 68 | 37 => 69 | 38 => 70 | 39 => 71 | 41 => 72 | n => n, t := fun x => match x with | 27 => 37 | 29 => 9 | 3 => 3 | 32 => 69 | 26 => 37 | 0 => 0 | 44 => 80 | 46 => 82 | 4 => 4 | 36 => 72 | 35 => 71 | 41 => 77 | 5 => 5 | 9 => 9 | 53 => 83 | 57 => 87 | 63 => 89 | 64 => 90 | n => n, g := fun x => have n := x; n }
theorem sort43 : Go.Proofs.SlLaysM.n6 Tryd.prog sort43_ren where
  mixed := by kernel_rfl
  f6 := ⟨"slices.Sort[[]string,string]", of_decide_eq_true (by kernel_rfl), Tryd.func43.trans (congrArg some (by kernel_rfl))⟩
  f8 := Tryd.func52.trans (congrArg some (by kernel_rfl))
  f9 := ⟨"slices.pdqsortOrdered[string]", of_decide_eq_true (by kernel_rfl), Tryd.func51.trans (congrArg some (by kernel_rfl))⟩
  f19 := Tryd.func64.trans (congrArg some (by kernel_rfl))
  f20 := Tryd.func65.trans (congrArg some (by kernel_rfl))
  f21 := ⟨"slices.insertionSortOrdered[string]", of_decide_eq_true (by kernel_rfl), Tryd.func55.trans (congrArg some (by kernel_rfl))⟩
  f22 := ⟨"slices.heapSortOrdered[string]", of_decide_eq_true (by kernel_rfl), Tryd.func56.trans (congrArg some (by kernel_rfl))⟩
  f23 := ⟨"slices.breakPatternsOrdered[string]", of_decide_eq_true (by kernel_rfl), Tryd.func57.trans (congrArg some (by kernel_rfl))⟩
  f24 := ⟨"slices.choosePivotOrdered[string]", of_decide_eq_true (by kernel_rfl), Tryd.func58.trans (congrArg some (by kernel_rfl))⟩
  f25 := ⟨"slices.reverseRangeOrdered[string]", of_decide_eq_true (by kernel_rfl), Tryd.func59.trans (congrArg some (by kernel_rfl))⟩
  f26 := ⟨"slices.partialInsertionSortOrdered[string]", of_decide_eq_true (by kernel_rfl), Tryd.func60.trans (congrArg some (by kernel_rfl))⟩
  f27 := ⟨"cmp.Less[string]", of_decide_eq_true (by kernel_rfl), Tryd.func61.trans (congrArg some (by kernel_rfl))⟩
  f28 := ⟨"slices.partitionEqualOrdered[string]", of_decide_eq_true (by kernel_rfl), Tryd.func62.trans (congrArg some (by kernel_rfl))⟩
  f29 := ⟨"slices.partitionOrdered[string]", of_decide_eq_true (by kernel_rfl), Tryd.func63.trans (congrArg some (by kernel_rfl))⟩
  f31 := Tryd.func67.trans (congrArg some (by kernel_rfl))
  f32 := Tryd.func68.trans (congrArg some (by kernel_rfl))
  f36 := ⟨"slices.siftDownOrdered[string]", of_decide_eq_true (by kernel_rfl), Tryd.func66.trans (congrArg some (by kernel_rfl))⟩
  f37 := ⟨"slices.medianAdjacentOrdered[string]", of_decide_eq_true (by kernel_rfl), Tryd.func69.trans (congrArg some (by kernel_rfl))⟩
  f38 := ⟨"slices.medianOrdered[string]", of_decide_eq_true (by kernel_rfl), Tryd.func70.trans (congrArg some (by kernel_rfl))⟩
  f39 := ⟨"cmp.isNaN[string]", of_decide_eq_true (by kernel_rfl), Tryd.func71.trans (congrArg some (by kernel_rfl))⟩
  f41 := ⟨"slices.order2Ordered[string]", of_decide_eq_true (by kernel_rfl), Tryd.func72.trans (congrArg some (by kernel_rfl))⟩
  t0 := Tryd.underlying0
  a0 := Tryd.isAgg0
  z0 := Tryd.sizeOf0
  v0 := Tryd.zeroValue0
  t3 := Tryd.underlying3
  a3 := Tryd.isAgg3
  z3 := Tryd.sizeOf3
  v3 := Tryd.zeroValue3
  t4 := Tryd.underlying4
  a4 := Tryd.isAgg4
  z4 := Tryd.sizeOf4
  v4 := Tryd.zeroValue4
  t5 := Tryd.underlying5
  a5 := Tryd.isAgg5
  z5 := Tryd.sizeOf5
  v5 := Tryd.zeroValue5
  t9 := Tryd.underlying9
  a9 := Tryd.isAgg9
  z9 := Tryd.sizeOf9
  v9 := Tryd.zeroValue9
  t26 := Tryd.underlying37
  a26 := Tryd.isAgg37
  z26 := Tryd.sizeOf37
  v26 := Tryd.zeroValue37
  t27 := Tryd.underlying37
  a27 := Tryd.isAgg37
  z27 := Tryd.sizeOf37
  v27 := Tryd.zeroValue37
  t29 := Tryd.underlying9
  a29 := Tryd.isAgg9
  z29 := Tryd.sizeOf9
  v29 := Tryd.zeroValue9
  t32 := Tryd.underlying69
  a32 := Tryd.isAgg69
  z32 := Tryd.sizeOf69
  v32 := Tryd.zeroValue69
  t35 := Tryd.underlying71
  a35 := Tryd.isAgg71
  z35 := Tryd.sizeOf71
  v35 := Tryd.zeroValue71
  t36 := Tryd.underlying72
  a36 := Tryd.isAgg72
  z36 := Tryd.sizeOf72
  v36 := Tryd.zeroValue72
  t41 := Tryd.underlying77
  a41 := Tryd.isAgg77
  z41 := Tryd.sizeOf77
  v41 := Tryd.zeroValue77
  t44 := Tryd.underlying80
  a44 := Tryd.isAgg80
  z44 := Tryd.sizeOf80
  v44 := Tryd.zeroValue80
  t46 := Tryd.underlying82
  a46 := Tryd.isAgg82
  z46 := Tryd.sizeOf82
  v46 := Tryd.zeroValue82
  t53 := Tryd.underlying83
  a53 := Tryd.isAgg83
  z53 := Tryd.sizeOf83
  v53 := Tryd.zeroValue83
  t57 := Tryd.underlying87
  a57 := Tryd.isAgg87
  z57 := Tryd.sizeOf87
  v57 := Tryd.zeroValue87
  t63 := Tryd.underlying89
  a63 := Tryd.isAgg89
  z63 := Tryd.sizeOf89
  v63 := Tryd.zeroValue89
  t64 := Tryd.underlying90
  a64 := Tryd.isAgg90
  z64 := Tryd.sizeOf90
  v64 := Tryd.zeroValue90
end Go.Proofs.YtlbmlhpjibgepaaDoor

/- A map's keys, collected and sorted. -/
namespace Go.Proofs.YtlbmlhpjibgepaaDoor
set_option linter.unusedVariables false
set_option linter.unusedSimpArgs false
set_option maxRecDepth 100000
open Go.RowKit Go.Shelf Fw Go.Maps Go.Sort

theorem sortsIn (m : Nat) : AnyZ.SortsIn Tryd.prog sorted34_ren Fence.wide m :=
  ⟨fun blk off cap ss W hH hblk hsz => callsIn_wide.2 (AnyM.slices_Sort_string sort43 blk off cap ss W hH hblk hsz),
  fun p cap W => callsIn_wide.2 (AnyM.slices_Sort_string_none sort43 p cap W)⟩

/-- Whatever stands behind a key reads as this. -/
def anyVal : Value → Option (DataW Unit × List MemPlace) := fun _ => some (.lit (.bool true), [])

theorem keys_insert (l : List (Lit × DataW Unit)) : (l.foldr DataW.insert []).Perm l := by
  induction l with
  | nil => exact .refl _
  | cons x l ih => exact (Go.WideShapes.insert_perm x _).trans (ih.cons x)

/-- slices.Sorted(maps.Keys(m)), of texts. -/
theorem c34 (Γ : Nat → PV) (H : List Blk) (b1 b2 : Nat) (es : List (PV × PV)) (ks : List (List UInt8)) (h1 : H[b1]? = some (.box [.map b2])) (h2 : H[b2]? = some (.map es)) (hk : es.map Prod.fst = ks.map .str) (hnd : ks.Nodup) (hlen : ks.length ≤ 1000000000000) :
    ACalls Tryd.prog Γ 34 [.func (.func 44) [] [.ptr b1 0]] H (fun p H' => p = .vec ((ks.mergeSort leB).map fun s => [.str s]) false ∧ H' = H) := by
  intro w0 G w us hs hr
  obtain ⟨l⟩ := us
  obtain ⟨v, vs, rfl, r1, r2⟩ := hr.cons_inv
  have : vs = [] := by have := r2.1; simpa using this.symm
  subst this
  -- the argument
  obtain ⟨hrow, C, e, hh, hC, hone⟩ := hs.blk b1 _ h1
  obtain ⟨hrow2, E, clock, hh2, hE1, hE2, hE3, hE4⟩ := hs.blk b2 _ h2
  have hv : v = .func (.func 44) #[] #[.pointer (some ⟨(G.info b1).blk, 0, none⟩)] := by
    cases r1 with
    | func _ _ _ _ fs' cs' e1 e2 e3 e4 =>
      have hf : fs' = #[] := by have := e1; simp at this; exact Array.eq_empty_of_size_eq_zero this.symm
      obtain ⟨cl⟩ := cs'
      match cl, e2, e4 with
      | [c], _, e4 =>
        have := e4 0 (.ptr b1 0) c rfl rfl
        cases this
        rw [hf]
  subst hv
  have hcell : w.cell? ⟨(G.info b1).blk, 0, none⟩ = some (.map (some (G.info b2).blk)) := by
    obtain ⟨cl⟩ := C
    obtain ⟨u, us, hu, q1, q2⟩ := hC.cons_inv
    have : us = [] := by have := q2.1; simpa using this.symm
    subst this
    simp only at hu
    subst hu
    cases q1
    simp [World.cell?, hh]
  -- the map's entries
  have hesl : es.length = ks.length := by have := congrArg List.length hk; simpa using this
  have hkey : ∀ (j : Nat) x, E[j]? = some x → ∃ s, ks[j]? = some s ∧ x.key = .string ⟨s.toArray⟩ := fun j x hx => by
    have hj : j < es.length := by have := (Array.getElem?_eq_some_iff.1 hx).1; omega
    have hkj : (es.map Prod.fst)[j]? = (ks.map PV.str)[j]? := by rw [hk]
    rw [List.getElem?_map, List.getElem?_map, List.getElem?_eq_getElem hj, List.getElem?_eq_getElem (by omega)] at hkj
    simp only [Option.map_some, Option.some.injEq] at hkj
    have := (hE2 j es[j].1 es[j].2 x (List.getElem?_eq_getElem hj) hx).1
    rw [hkj] at this
    exact ⟨ks[j]'(by omega), List.getElem?_eq_getElem (by omega), this.str_inv⟩
  have hkl : ∀ k ∈ ks, k.length ≤ 9223372036854775807 := fun k hk' => by
    obtain ⟨j, hj, rfl⟩ := List.mem_iff_getElem.1 hk'
    have hkj : (es.map Prod.fst)[j]? = (ks.map PV.str)[j]? := by rw [hk]
    rw [List.getElem?_map, List.getElem?_map, List.getElem?_eq_getElem (show j < es.length by omega), List.getElem?_eq_getElem hj] at hkj
    simp only [Option.map_some, Option.some.injEq] at hkj
    have := (hE2 j (es[j]'(by omega)).1 (es[j]'(by omega)).2 (E[j]'(by omega)) (List.getElem?_eq_getElem _) (Array.getElem?_eq_getElem _)).1
    rw [hkj] at this
    exact this.str_len
  have hkeys : E.toList.map (·.key) = ks.map encStr := by
    refine List.ext_getElem? fun j => ?_
    rw [List.getElem?_map, List.getElem?_map, Array.getElem?_toList]
    cases hx : E[j]? with
    | none =>
      have : ks.length ≤ j := by have := Array.getElem?_eq_none_iff.1 hx; omega
      rw [List.getElem?_eq_none this]; rfl
    | some x =>
      obtain ⟨s, g1, g2⟩ := hkey j x hx
      rw [g1, Option.map_some, Option.map_some, g2]
  have hrd : ∀ x ∈ E.toList, ∃ s, s ∈ ks ∧ x.key = encStr s ∧ Go.WideElems.rd Tryd.prog 9 anyVal x = some (.string s, .lit (.bool true)) := fun x hx => by
    obtain ⟨j, hj, rfl⟩ := List.mem_iff_getElem.1 hx
    obtain ⟨s, g1, g2⟩ := hkey j (E.toList[j]) (by rw [← Array.getElem?_toList]; exact List.getElem?_eq_getElem hj)
    refine ⟨s, List.mem_of_getElem? g1, g2, ?_⟩
    have hsz : (⟨s.toArray⟩ : ByteArray).size ≤ maxLen := by
      have := hkl s (List.mem_of_getElem? g1)
      show s.toArray.size ≤ _
      unfold maxLen; simpa using this
    have := Go.WideMaps.keyOf_string_mk (P := Tryd.prog) (k := 9) un9 hsz
    unfold Go.WideElems.rd
    rw [g2, show (Value.string ⟨s.toArray⟩) = .string (⟨s.toArray⟩ : ByteArray) from rfl, this]
    rfl
  have hown : w.ownsMap Tryd.prog 9 anyVal (G.info b2).blk E.size (.map ((E.toList.map (Go.WideElems.rg Tryd.prog 9 anyVal)).foldr DataW.insert [])) :=
    ⟨E, clock, hh2, ⟨by unfold maxLen; omega, ⟨fun x hx => by
        obtain ⟨j, hj, rfl⟩ := List.mem_iff_getElem.1 hx
        exact hE3 j _ (by rw [← Array.getElem?_toList]; exact List.getElem?_eq_getElem hj), by
        refine List.pairwise_iff_getElem.2 fun i j hi hj hij e => ?_
        rw [List.length_map] at hi hj
        rw [List.getElem_map, List.getElem_map] at e
        have := hE4 i j _ _ (by rw [← Array.getElem?_toList]; exact List.getElem?_eq_getElem hi) (by rw [← Array.getElem?_toList]; exact List.getElem?_eq_getElem hj) e
        omega, by
        rw [hkeys]
        exact List.pairwise_map.2 (hnd.imp fun {a b} h e => h (encStr_inj e))⟩, fun x hx => by
        obtain ⟨s, _, _, g⟩ := hrd x hx
        exact ⟨_, g⟩⟩, Nat.le_refl _, rfl⟩
  have hperm : (strKeys (.map ((E.toList.map (Go.WideElems.rg Tryd.prog 9 anyVal)).foldr DataW.insert []))).Perm ks := by
    show (List.map (fun p : Lit × DataW Unit => strOf p.1) _).Perm ks
    refine ((keys_insert _).map _).trans ?_
    rw [List.map_map]
    have : E.toList.map ((fun p : Lit × DataW Unit => strOf p.1) ∘ Go.WideElems.rg Tryd.prog 9 anyVal) = ks := by
      have h3 : (E.toList.map ((fun p : Lit × DataW Unit => strOf p.1) ∘ Go.WideElems.rg Tryd.prog 9 anyVal)).map encStr = ks.map encStr := by
        rw [← hkeys, List.map_map]
        refine List.map_congr_left fun x hx => ?_
        obtain ⟨s, _, g2, g3⟩ := hrd x hx
        show encStr (strOf (Go.WideElems.rg Tryd.prog 9 anyVal x).1) = x.key
        rw [Go.WideElems.rg_of g3, g2]; rfl
      exact (List.map_inj_right (fun a b h => encStr_inj h)).1 h3
    rw [this]
  have hsize : Maps.size (DataW.map ((E.toList.map (Go.WideElems.rg Tryd.prog 9 anyVal)).foldr DataW.insert [])) = ks.length := by
    show List.length _ = _
    rw [(keys_insert _).length_eq, List.length_map, Array.length_toList]; omega
  have hseq : SeqGives Fence.wide 2 Tryd.prog 44 #[.pointer (some ⟨(G.info b1).blk, 0, none⟩)] encStr (fun ss => ss.Perm (strKeys (.map ((E.toList.map (Go.WideElems.rg Tryd.prog 9 anyVal)).foldr DataW.insert [])))) (Maps.size (DataW.map ((E.toList.map (Go.WideElems.rg Tryd.prog 9 anyVal)).foldr DataW.insert []))) w :=
    AnyZ.keys_gives (ρ := keysit44_ren) keysit44 Fence.wide _ trivial rfl (by omega) _ _ _ _ _ (hs.own b1 _ h1 rfl).2.1 hcell hown
  refine callsIn_wide.2 (callsIn_wide.1 ((AnyZ.sorted_in sorted34 Fence.wide 5 trivial trivial trivial trivial rfl (by omega) (sortsIn _) (enters_of Tryd.func43 (by kernel_rfl) rfl) 44 #[.pointer (some ⟨(G.info b1).blk, 0, none⟩)] trivial (enters_of Tryd.func44 (by kernel_rfl) rfl) _ _ (by rw [hsize]; unfold maxLen; omega) (by rw [hsize]; omega) _ hseq).mono fun e w' hq => ?_))
  obtain ⟨u, ss, rfl, hS, ho, _, hb⟩ := hq
  have hms : ss.mergeSort (fun x y => decide (x ≤ y)) = ks.mergeSort leB := mergeSort_of_perm (hS.trans hperm)
  rw [hms, ← (show (ks.mergeSort leB).length = ss.length by rw [List.length_mergeSort, (hS.trans hperm).length_eq])] at ho
  obtain ⟨G', g1, g2, g3⟩ := hs.newOwn (encP := fun s => PV.str s) hb ho (Nat.le_refl _) (fun x hx G => .str _ _ (hkl x (by rwa [List.mem_mergeSort] at hx))) (fun _ => rfl)
  exact ⟨u, _, H, G', rfl, g1, g3 _, g2, Nat.le_refl _, rfl, rfl⟩

end Go.Proofs.YtlbmlhpjibgepaaDoor

/- Plain laws: which names are free in a term; maps of texts to numbers. -/
namespace Go.Proofs.YtlbmlhpjibgepaaDoor
set_option linter.unusedVariables false
set_option linter.unusedSimpArgs false
set_option maxRecDepth 100000
open Go.RowKit Fw Go.Maps Go.Sort

theorem mem_addT {l : List (List UInt8)} {x s : List UInt8} : s ∈ addT l x ↔ s = x ∨ s ∈ l := by
  induction l with
  | nil => simp [addT]
  | cons y l ih =>
    unfold addT
    split
    · rw [List.mem_cons, ih, List.mem_cons]
      constructor
      · rintro (h | h | h)
        · exact .inr (.inl h)
        · exact .inl h
        · exact .inr (.inr h)
      · rintro (h | h | h)
        · exact .inr (.inl h)
        · exact .inl h
        · exact .inr (.inr h)
    · split
      · rename_i e
        subst e
        rw [List.mem_cons]
        exact ⟨fun h => .inr h, fun h => h.elim .inl id⟩
      · rw [List.mem_cons]
theorem mem_addTs {b : Bool} {nm s : List UInt8} : ∀ {l out : List (List UInt8)}, s ∈ addTs out b nm l ↔ s ∈ out ∨ s ∈ l ∧ ¬ (b = true ∧ s = nm)
  | [], out => by unfold addTs; simp
  | x :: l, out => by
    unfold addTs
    rw [mem_addTs (l := l)]
    by_cases h : (!b || !decide (x = nm)) = true
    · rw [if_pos h, mem_addT]
      have hx : ¬ (b = true ∧ x = nm) := by
        rintro ⟨h1, h2⟩
        subst h1 h2
        simp at h
      constructor
      · rintro ((rfl | h1) | ⟨h1, h2⟩)
        · exact .inr ⟨List.mem_cons_self .., hx⟩
        · exact .inl h1
        · exact .inr ⟨List.mem_cons_of_mem _ h1, h2⟩
      · rintro (h1 | ⟨h1, h2⟩)
        · exact .inl (.inr h1)
        · rcases List.mem_cons.1 h1 with rfl | h1
          · exact .inl (.inl rfl)
          · exact .inr ⟨h1, h2⟩
    · rw [if_neg h]
      have hb : b = true ∧ x = nm := by
        cases b with
        | false => simp at h
        | true => exact ⟨rfl, by simpa using h⟩
      constructor
      · rintro (h1 | ⟨h1, h2⟩)
        · exact .inl h1
        · exact .inr ⟨List.mem_cons_of_mem _ h1, h2⟩
      · rintro (h1 | ⟨h1, h2⟩)
        · exact .inl h1
        · rcases List.mem_cons.1 h1 with rfl | h1
          · exact absurd hb h2
          · exact .inr ⟨h1, h2⟩
theorem mem_frees {b : Bool} {nm s : List UInt8} : ∀ {ks : List Tm} {out : List (List UInt8)}, s ∈ Tm.frees ks out b nm ↔ s ∈ out ∨ ∃ (i : Nat) (k : Tm), ks[i]? = some k ∧ s ∈ k.free ∧ ¬ (b = true ∧ i + 1 = ks.length ∧ s = nm)
  | [], out => by unfold Tm.frees; simp
  | t :: ts, out => by
    unfold Tm.frees
    rw [mem_frees (ks := ts), mem_addTs]
    have he : ts.isEmpty = true ↔ ts.length = 0 := by cases ts <;> simp
    constructor
    · rintro ((h | ⟨h1, h2⟩) | ⟨i, k, h1, h2, h3⟩)
      · exact .inl h
      · refine .inr ⟨0, t, rfl, h1, fun ⟨a, c, d⟩ => h2 ⟨?_, d⟩⟩
        rw [a, Bool.true_and]; exact he.2 (by rw [List.length_cons] at c; omega)
      · exact .inr ⟨i + 1, k, by simpa using h1, h2, fun ⟨a, c, d⟩ => h3 ⟨a, by rw [List.length_cons] at c; omega, d⟩⟩
    · rintro (h | ⟨i, k, h1, h2, h3⟩)
      · exact .inl (.inl h)
      · cases i with
        | zero =>
          simp only [List.getElem?_cons_zero, Option.some.injEq] at h1
          subst h1
          refine .inl (.inr ⟨h2, fun ⟨a, d⟩ => h3 ?_⟩)
          rw [Bool.and_eq_true] at a
          exact ⟨a.1, by rw [List.length_cons, he.1 a.2], d⟩
        | succ i => exact .inr ⟨i, k, by simpa using h1, h2, fun ⟨a, c, d⟩ => h3 ⟨a, by rw [List.length_cons]; omega, d⟩⟩
theorem mem_free {t : Tm} {s : List UInt8} : s ∈ t.free ↔ (t.kind = 2 ∧ s = t.name) ∨ ∃ (i : Nat) (k : Tm), t.kids[i]? = some k ∧ s ∈ k.free ∧ ¬ (t.binder = true ∧ i + 1 = t.kids.length ∧ s = t.name) := by
  rw [Tm.free_eq, mem_frees]
  refine or_congr ?_ Iff.rfl
  split
  · rename_i h; simp [h]
  · rename_i h; simp [h]

/-- One behind another by their bytes. -/
abbrev Rising (l : List (List UInt8)) : Prop := l.Pairwise (· < ·)
theorem rising_addT {l : List (List UInt8)} (h : Rising l) (x : List UInt8) : Rising (addT l x) := by
  induction l with
  | nil => exact List.pairwise_singleton _ _
  | cons y l ih =>
    obtain ⟨h1, h2⟩ := List.pairwise_cons.1 h
    unfold addT
    split
    · rename_i hlt
      refine List.pairwise_cons.2 ⟨fun z hz => ?_, ih h2⟩
      rcases mem_addT.1 hz with rfl | hz
      · exact hlt
      · exact h1 z hz
    · split
      · exact h
      · rename_i hn hne
        have hxy : x < y := by
          rcases List.le_iff_lt_or_eq.1 (List.not_lt.1 hn) with h | h
          · exact h
          · exact absurd h.symm hne
        refine List.pairwise_cons.2 ⟨fun z hz => ?_, h⟩
        rcases List.mem_cons.1 hz with rfl | hz
        · exact hxy
        · exact List.lt_trans hxy (h1 z hz)
theorem rising_addTs {b : Bool} {nm : List UInt8} : ∀ {l out : List (List UInt8)}, Rising out → Rising (addTs out b nm l)
  | [], _, h => by unfold addTs; exact h
  | x :: l, out, h => by
    unfold addTs
    refine rising_addTs ?_
    split
    · exact rising_addT h x
    · exact h
theorem rising_frees {b : Bool} {nm : List UInt8} : ∀ {ks : List Tm} {out : List (List UInt8)}, Rising out → Rising (Tm.frees ks out b nm)
  | [], _, h => by unfold Tm.frees; exact h
  | t :: ts, out, h => by unfold Tm.frees; exact rising_frees (rising_addTs h)
theorem rising_free (t : Tm) : Rising t.free := by
  rw [Tm.free_eq]
  refine rising_frees ?_
  split
  · exact List.pairwise_singleton _ _
  · exact List.Pairwise.nil
theorem rising_nodup {l : List (List UInt8)} (h : Rising l) : l.Nodup :=
  List.Pairwise.imp (S := fun a b : List UInt8 => a ≠ b) (fun {a b} (hlt : a < b) (e : a = b) => by subst e; exact List.lt_irrefl _ hlt) h

/-- The keys in order are the list that rises. -/
theorem sorted_is {ks l : List (List UInt8)} (hn : ks.Nodup) (hl : Rising l) (h : ∀ s, s ∈ ks ↔ s ∈ l) : ks.mergeSort leB = l := by
  have hp : ks.Perm l := (List.perm_ext_iff_of_nodup hn (rising_nodup hl)).2 h
  rw [mergeSort_of_perm hp]
  exact List.mergeSort_of_pairwise (hl.imp fun {a b} h => decide_eq_true (List.le_of_lt h))

/-- The end of a function that drops its own blocks. -/
theorem calls_cut {P : Program} {Γ : Nat → PV} {fn : Func} {n : Nat} {p : PV} {R : PV → List Blk → Prop} {A' : List (Nat × PV)} (H1 L : List Blk) {e : Exit} (he : e = .ret ∨ e = .normal) (hbd : ∀ B ∈ H1, B.bd H1.length = true) (h : ares P Γ A' (H1 ++ L) fn.results.toList = some p) (hp : p.bd H1.length = true) (hn : n ≤ H1.length) (hR : R p H1) :
    RetQ P Γ fn n R e A' (H1 ++ L) [] := by
  have ht : (H1 ++ L).take H1.length = H1 := List.take_left' rfl
  exact ⟨he, List.nodup_nil, (fun b hb => by cases hb), p, H1.length, h, hn, by simp, fun b hb => (by cases hb), hp, by rw [ht]; exact hbd, by rw [ht]; exact hR⟩

/-- Texts with numbers, as a map's entries. -/
def mp (ks : List (List UInt8)) (f : List UInt8 → Int) : List (PV × PV) := ks.map fun k => (.str k, .int .i64 (f k))
def updF (f : List UInt8 → Int) (k : List UInt8) (v : Int) : List UInt8 → Int := fun x => if x = k then v else f x
def insK (ks : List (List UInt8)) (k : List UInt8) : List (List UInt8) := if k ∈ ks then ks else ks ++ [k]
theorem insK_mem {ks : List (List UInt8)} {k s : List UInt8} : s ∈ insK ks k ↔ s = k ∨ s ∈ ks := by
  unfold insK
  split
  · rename_i h; exact ⟨.inr, fun e => e.elim (fun e => e ▸ h) id⟩
  · rw [List.mem_append, List.mem_singleton, Or.comm]
theorem insK_nodup {ks : List (List UInt8)} {k : List UInt8} (h : ks.Nodup) : (insK ks k).Nodup := by
  unfold insK
  split
  · exact h
  · rename_i hn
    refine List.nodup_append.2 ⟨h, List.pairwise_singleton _ _, fun a ha b hb e => ?_⟩
    rw [List.mem_singleton] at hb
    exact hn (hb ▸ e ▸ ha)
theorem insK_len (ks : List (List UInt8)) (k : List UInt8) : (insK ks k).length ≤ ks.length + 1 := by
  unfold insK
  split
  · omega
  · rw [List.length_append]; exact Nat.le_refl _
theorem updF_back (f : List UInt8 → Int) (k : List UInt8) (v : Int) : updF (updF f k v) k (f k) = f := by
  funext x
  unfold updF
  by_cases h : x = k
  · rw [if_pos h, h]
  · rw [if_neg h, if_neg h]
theorem updF_same (f : List UInt8 → Int) (k : List UInt8) (v : Int) : updF f k v k = v := if_pos rfl
theorem updF_other (f : List UInt8 → Int) {k x : List UInt8} (v : Int) (h : x ≠ k) : updF f k v x = f x := if_neg h

theorem mfind_mp (f : List UInt8 → Int) (k : List UInt8) : ∀ (ks : List (List UInt8)) (i : Nat), mfind (.str k) (mp ks f) i = some (match ks.findIdx? (fun x => decide (k = x)) with
    | none => none
    | some j => some (i + j, .int .i64 (f (ks.getD j []))))
  | [], i => rfl
  | x :: ks, i => by
    show mfind (.str k) ((.str x, .int .i64 (f x)) :: mp ks f) i = _
    unfold mfind
    rw [List.findIdx?_cons]
    by_cases h : k = x
    · simp only [keyEq, h, decide_true, ↓reduceIte]; rfl
    · simp only [keyEq, h, decide_false, Bool.false_eq_true, ↓reduceIte]
      rw [mfind_mp f k ks (i + 1)]
      cases ks.findIdx? (fun x => decide (k = x)) with
      | none => rfl
      | some j => simp only [Option.map_some]; rw [show i + 1 + j = i + (j + 1) by omega]; rfl
theorem look_mp {ks : List (List UInt8)} {f : List UInt8 → Int} (k : List UInt8) (hn : ks.Nodup) (h0 : ∀ s, ¬ s ∈ ks → f s = 0) :
    ∃ r, mfind (.str k) (mp ks f) 0 = some r ∧ gotOr r (.int .i64 0) = .int .i64 (f k) ∧ ∀ v, mput (mp ks f) (.str k) (.int .i64 v) r = mp (insK ks k) (updF f k v) := by
  refine ⟨_, mfind_mp f k ks 0, ?_⟩
  cases h : ks.findIdx? (fun x => decide (k = x)) with
  | none =>
    rw [List.findIdx?_eq_none_iff] at h
    have hk : ¬ k ∈ ks := fun hm => by simpa using h k hm
    refine ⟨by show PV.int .i64 0 = _; rw [h0 k hk], fun v => ?_⟩
    show mp ks f ++ [_] = _
    unfold insK mp
    rw [if_neg hk, List.map_append, List.map_singleton, updF_same]
    congr 1
    refine List.map_congr_left fun x hx => ?_
    have hx' : x ≠ k := fun e => by subst e; exact hk hx
    rw [updF_other _ _ hx']
  | some j =>
    obtain ⟨hj, h2, _⟩ := List.findIdx?_eq_some_iff_getElem.1 h
    have e : ks[j] = k := by simpa using (of_decide_eq_true h2).symm
    have hk : k ∈ ks := e ▸ List.getElem_mem hj
    refine ⟨by show PV.int .i64 (f (ks.getD j [])) = _; rw [List.getD_eq_getElem?_getD, List.getElem?_eq_getElem hj]; show PV.int .i64 (f ks[j]) = _; rw [e], fun v => ?_⟩
    show (mp ks f).set (0 + j) _ = _
    unfold insK mp
    rw [if_pos hk, Nat.zero_add]
    refine List.ext_getElem? fun i => ?_
    by_cases hij : j = i
    · subst hij
      rw [List.getElem?_set_self (by rw [List.length_map]; exact hj), List.getElem?_map, List.getElem?_eq_getElem hj, Option.map_some, e, updF_same]
    · rw [List.getElem?_set_ne hij, List.getElem?_map, List.getElem?_map]
      cases hi : ks[i]? with
      | none => rfl
      | some x =>
        have hx : x ≠ k := fun hx => by
          exact hij ((List.getElem?_inj hj hn).1 (by rw [hi, hx, List.getElem?_eq_getElem hj, e]))
        simp only [Option.map_some, updF_other _ _ hx]

/-- The two maps in their places. -/
def stH (H : List Blk) (mb mm : Nat) (kb : List (List UInt8)) (f : List UInt8 → Int) (km : List (List UInt8)) (g : List UInt8 → Int) : List Blk := (H.set mb (.map (mp kb f))).set mm (.map (mp km g))
section
variable {H : List Blk} {mb mm : Nat} {kb km : List (List UInt8)} {f g : List UInt8 → Int}
theorem stH_len : (stH H mb mm kb f km g).length = H.length := by unfold stH; rw [List.length_set, List.length_set]
theorem stH_at {b : Nat} (h1 : b ≠ mb) (h2 : b ≠ mm) : (stH H mb mm kb f km g)[b]? = H[b]? := by unfold stH; rw [List.getElem?_set_ne (Ne.symm h2), List.getElem?_set_ne (Ne.symm h1)]
theorem stH_mb (h : mb < H.length) (hne : mb ≠ mm) : (stH H mb mm kb f km g)[mb]? = some (.map (mp kb f)) := by unfold stH; rw [List.getElem?_set_ne (Ne.symm hne), List.getElem?_set_self h]
theorem stH_mm (h : mm < H.length) : (stH H mb mm kb f km g)[mm]? = some (.map (mp km g)) := by unfold stH; rw [List.getElem?_set_self (by rw [List.length_set]; exact h)]
theorem stH_setb (hne : mb ≠ mm) (kb' : List (List UInt8)) (f' : List UInt8 → Int) : (stH H mb mm kb f km g).set mb (.map (mp kb' f')) = stH H mb mm kb' f' km g := by
  unfold stH; rw [List.set_comm _ _ (Ne.symm hne), List.set_set]
theorem stH_setm (km' : List (List UInt8)) (g' : List UInt8 → Int) : (stH H mb mm kb f km g).set mm (.map (mp km' g')) = stH H mb mm kb f km' g' := by
  unfold stH; rw [List.set_set]
theorem stH_app (h1 : mb < H.length) (h2 : mm < H.length) (L : List Blk) : stH H mb mm kb f km g ++ L = stH (H ++ L) mb mm kb f km g := by
  unfold stH; rw [List.set_append_left _ _ h1, List.set_append_left _ _ (by rw [List.length_set]; exact h2)]
theorem stH_stH (hne : mb ≠ mm) (kb' km' : List (List UInt8)) (f' g' : List UInt8 → Int) : stH (stH H mb mm kb f km g) mb mm kb' f' km' g' = stH H mb mm kb' f' km' g' := by
  show ((stH H mb mm kb f km g).set mb _).set mm _ = _
  rw [stH_setb hne, stH_setm]
theorem mp_bd (n : Nat) (ks : List (List UInt8)) (f : List UInt8 → Int) : (Blk.map (mp ks f)).bd n = true := by
  simp [Blk.bd, mp, PV.bd]
theorem stH_bd (h : ∀ B ∈ H, B.bd H.length = true) : ∀ B ∈ stH H mb mm kb f km g, B.bd (stH H mb mm kb f km g).length = true := fun B hB => by
  rw [stH_len]
  unfold stH at hB
  rcases List.mem_or_eq_of_mem_set hB with hB | rfl
  · rcases List.mem_or_eq_of_mem_set hB with hB | rfl
    · exact h B hB
    · exact mp_bd _ _ _
  · exact mp_bd _ _ _
theorem stH_bd2 (hne : mb ≠ mm) (h : ∀ B ∈ stH H mb mm kb f km g, B.bd (stH H mb mm kb f km g).length = true) (kb' km' : List (List UInt8)) (f' g' : List UInt8 → Int) :
    ∀ B ∈ stH H mb mm kb' f' km' g', B.bd (stH H mb mm kb' f' km' g').length = true := by
  rw [← stH_stH hne kb' km' f' g']
  exact stH_bd h
end

end Go.Proofs.YtlbmlhpjibgepaaDoor

/- The contract of the names that are free in a term: the program's. -/
namespace Go.Proofs.YtlbmlhpjibgepaaDoor
set_option linter.unusedVariables false
set_option linter.unusedSimpArgs false
set_option maxRecDepth 100000
open Go.RowKit Fw Go.Maps Go.Sort

theorem aops_end {P : Program} {Γ : Nat → PV} {ops : Array Oper} {Q : List (Nat × PV) → List Blk → Prop} {A : List (Nat × PV)} {H : List Blk} (h : Q A H) : AOps P Γ ops Q [] A H := h

/-- maps.Keys -/
theorem c35 (Γ : Nat → PV) (m : Nat) (H : List Blk) (hm : m < H.length) : ACalls Tryd.prog Γ 35 [.map m] H (fun p H' => p = .func (.func 44) [] [.ptr H.length 0] ∧ H' = H ++ [.box [.map m]]) := by
  refine acalls_of_awp Tryd.func35 rfl (by simp [Tryd.f35]) fun hbd => ?_
  refine awp_seq ?_
  refine awp_run rfl (by simp only [fwA, ↓reduceIte, Nat.reduceAdd, Nat.reduceMul, Nat.reduceEqDiff, Nat.reduceLT, Nat.reduceLeDiff, reduceCtorEq] <;> rfl) ?_
  refine awp_seq ?_
  refine awp_run rfl (by simp only [fwA, ↓reduceIte, Nat.reduceAdd, Nat.reduceMul, Nat.reduceEqDiff, Nat.reduceLT, Nat.reduceLeDiff, reduceCtorEq] <;> rfl) ?_
  refine awp_bd fun hbd' => ?_
  refine awp_ret ?_
  exact calls_at (p := .func (.func 44) [] [.ptr H.length 0]) (.inl rfl) hbd' rfl (by simp [PV.bd, PV.bdL]) (by simp) ⟨rfl, rfl⟩

theorem z3 : zero1 Tryd.prog 3 = some (.int .i64 0) := by kernel_rfl
/-- What the closure's blocks are. -/
structure Walk (H : List Blk) (b1 b2 b3 mb mm : Nat) : Prop where
  hb : mb < H.length
  hm : mm < H.length
  ne : mb ≠ mm
  h1 : H[b1]? = some (.box [.map mb])
  h2 : H[b2]? = some (.box [.map mm])
  h3 : H[b3]? = some (.box [.func (.func 33) [] [.ptr b1 0, .ptr b2 0, .ptr b3 0]])
  n1 : b1 ≠ mb ∧ b1 ≠ mm
  n2 : b2 ≠ mb ∧ b2 ≠ mm
  n3 : b3 ≠ mb ∧ b3 ≠ mm
theorem Walk.app {H : List Blk} {b1 b2 b3 mb mm : Nat} (h : Walk H b1 b2 b3 mb mm) (L : List Blk) : Walk (H ++ L) b1 b2 b3 mb mm :=
  ⟨by rw [List.length_append]; have := h.hb; omega, by rw [List.length_append]; have := h.hm; omega, h.ne, get_old L h.h1, get_old L h.h2, get_old L h.h3, h.n1, h.n2, h.n3⟩
theorem Walk.at {H : List Blk} {b1 b2 b3 mb mm : Nat} (h : Walk H b1 b2 b3 mb mm) (kb km : List (List UInt8)) (f g : List UInt8 → Int) :
    (stH H mb mm kb f km g)[b1]? = some (.box [.map mb]) ∧ (stH H mb mm kb f km g)[b2]? = some (.box [.map mm]) ∧ (stH H mb mm kb f km g)[b3]? = some (.box [.func (.func 33) [] [.ptr b1 0, .ptr b2 0, .ptr b3 0]]) ∧
    (stH H mb mm kb f km g)[mb]? = some (.map (mp kb f)) ∧ (stH H mb mm kb f km g)[mm]? = some (.map (mp km g)) :=
  ⟨(stH_at h.n1.1 h.n1.2).trans h.h1, (stH_at h.n2.1 h.n2.2).trans h.h2, (stH_at h.n3.1 h.n3.2).trans h.h3, stH_mb h.hb h.ne, stH_mm h.hm⟩

/-- Keys once, and nothing behind others. -/
def KeysOf (ks : List (List UInt8)) (f : List UInt8 → Int) : Prop := ks.Nodup ∧ ∀ s, ¬ s ∈ ks → f s = 0
theorem KeysOf.put {ks : List (List UInt8)} {f : List UInt8 → Int} (h : KeysOf ks f) (k : List UInt8) (v : Int) : KeysOf (insK ks k) (updF f k v) :=
  ⟨insK_nodup h.1, fun s hs => by
    have h1 : s ≠ k := fun e => hs (insK_mem.2 (.inl e))
    rw [updF_other _ _ h1]; exact h.2 s fun hm => hs (insK_mem.2 (.inr hm))⟩

/-- What a walk comes to. -/
def Walked (H : List Blk) (mb mm : Nat) (f : List UInt8 → Int) (km : List (List UInt8)) (w : Nat) (S : List UInt8 → Prop) (H' : List Blk) : Prop :=
  ∃ kb' km' g', H' = stH H mb mm kb' f km' g' ∧ KeysOf kb' f ∧ KeysOf km' g' ∧ km'.length ≤ km.length + w ∧ ∀ s, s ∈ km' ↔ s ∈ km ∨ S s

set_option maxHeartbeats 2000000 in
/-- term.Free$1 -/
theorem c33 (Γ : Nat → PV) : ∀ (t : Tm), t.w ≤ 1000000000 → ∀ (H : List Blk) (b1 b2 b3 mb mm : Nat) (kb km : List (List UInt8)) (f g : List UInt8 → Int), Walk H b1 b2 b3 mb mm → KeysOf kb f → KeysOf km g → (∀ s, 0 ≤ f s ∧ f s + t.w ≤ 2000000000) →
    ACalls Tryd.prog Γ 33 [.agg t.enc, .ptr b1 0, .ptr b2 0, .ptr b3 0] (stH H mb mm kb f km g) (fun _ H' => Walked H mb mm f km t.w (fun s => s ∈ t.free ∧ f s = 0) H') := by
  refine Tm.ind fun t ih hw H b1 b2 b3 mb mm kb km f g hW hkb hkm hf => ?_
  have hkw := Tm.kids_w t
  have hwe := Tm.w_eq t
  refine acalls_of_awp Tryd.func33 rfl (by simp [Tryd.f33]) fun hbd => ?_
  refine awp_seq ?_
  refine awp_run rfl (by simp only [fwA, ↓reduceIte, Nat.reduceAdd, Nat.reduceMul, Nat.reduceEqDiff, Nat.reduceLT, Nat.reduceLeDiff, reduceCtorEq, Tm.fw] <;> rfl) ?_
  have hlen0 : (stH H mb mm kb f km g).length = H.length := stH_len
  refine awp_keep (A' := [(1, .ptr b1 0), (2, .ptr b2 0), (3, .ptr b3 0), (4, .ptr H.length 0)]) [1, 2, 3, 4] (by simp [akeep, alook, aput, ev, initA, hlen0]) ?_
  refine awp_heap (H' := stH (H ++ [.box t.enc]) mb mm kb f km g) (stH_app hW.hb hW.hm _) ?_
  have hW2 := hW.app [.box t.enc]
  have hbox : (H ++ [Blk.box t.enc])[H.length]? = some (.box t.enc) := by simp
  have n4 : H.length ≠ mb ∧ H.length ≠ mm := ⟨by have := hW.hb; omega, by have := hW.hm; omega⟩
  have hH2l : (H ++ [Blk.box t.enc]).length = H.length + 1 := by simp
  -- the own block
  have hbdH : ∀ B ∈ H ++ [Blk.box t.enc], B.bd (H ++ [Blk.box t.enc]).length = true ∨ B = B := fun B hB => .inr rfl
  generalize hH2 : H ++ [Blk.box t.enc] = H2 at hW2 hbox hH2l ⊢
  refine awp_bd fun hbd2 => ?_
  refine awp_seq ?_
  -- regions 1, 2
  refine AWP.mono (Q := fun e A' H' D' => e = .normal ∧ akeep [1, 2, 3, 4] A' = [(1, .ptr b1 0), (2, .ptr b2 0), (3, .ptr b3 0), (4, .ptr H.length 0)] ∧ (∃ km1 g1, H' = stH H2 mb mm kb f km1 g1 ∧ KeysOf km1 g1 ∧ km1.length ≤ km.length + 1 ∧ ∀ s, s ∈ km1 ↔ s ∈ km ∨ (t.kind = 2 ∧ s = t.name ∧ f s = 0)) ∧ D' = []) ?_ fun e A' H' D' hq => ?_
  · refine awp_seq ?_
    obtain ⟨w1, w2, w3, w4, w5⟩ := hW2.at kb km f g
    have w6 : (stH H2 mb mm kb f km g)[H.length]? = some (.box t.enc) := (stH_at n4.1 n4.2).trans hbox
    obtain ⟨rb, r1, r2, r3⟩ := look_mp (ks := kb) (f := f) t.name hkb.1 hkb.2
    obtain ⟨rm, m1, m2, m3⟩ := look_mp (ks := km) (f := g) t.name hkm.1 hkm.2
    generalize hX : stH H2 mb mm kb f km g = X at w1 w2 w3 w4 w5 w6 ⊢
    refine awp_region rfl ?_
    by_cases k2 : t.kind = 2
    rotate_left
    · refine aops_run 10 (by simp only [fwA, ↓reduceIte, Nat.reduceAdd, Nat.reduceMul, Nat.reduceEqDiff, Nat.reduceLT, Nat.reduceLeDiff, reduceCtorEq, w6, fl24_0, ti3, Tm.fw, k2, decide_false] <;> rfl) ?_
      refine awp_cond (b := false) (by simp [alook, aput, ev]) (awp_skip ?_)
      exact ⟨rfl, by simp [akeep, alook, aput, ev], ⟨km, g, hX.symm, hkm, by omega, fun s => ⟨.inl, fun h => h.elim id fun h => absurd h.1 k2⟩⟩, rfl⟩
    refine aops_run 7 (by simp only [fwA, ↓reduceIte, Nat.reduceAdd, Nat.reduceMul, Nat.reduceEqDiff, Nat.reduceLT, Nat.reduceLeDiff, reduceCtorEq, w1, w6, fl24_0, fl24_1, ti3, ti9, ti50, Tm.fw, k2, decide_true] <;> rfl) ?_
    refine aops_if rfl rfl rfl (os_lookup (r := rb) (z := .int .i64 0) rfl un50 un9 rfl rfl w4 r1 (fun _ => zero1_spec z3) ?_)
    rw [if_neg (by decide), r2]
    by_cases hf0 : f t.name = 0
    rotate_left
    · refine aops_run 2 (by simp only [fwA, ↓reduceIte, Nat.reduceAdd, Nat.reduceMul, Nat.reduceEqDiff, Nat.reduceLT, Nat.reduceLeDiff, reduceCtorEq, hf0, decide_false] <;> rfl) ?_
      refine awp_cond (b := false) (by simp [alook, aput, ev]) (awp_skip ?_)
      exact ⟨rfl, by simp [akeep, alook, aput, ev], ⟨km, g, hX.symm, hkm, by omega, fun s => ⟨.inl, fun h => h.elim id fun h => absurd (h.2.1 ▸ h.2.2) hf0⟩⟩, rfl⟩
    refine aops_run 2 (by simp only [fwA, ↓reduceIte, Nat.reduceAdd, Nat.reduceMul, Nat.reduceEqDiff, Nat.reduceLT, Nat.reduceLeDiff, reduceCtorEq, hf0, decide_true] <;> rfl) ?_
    refine awp_cond (b := true) (by simp [alook, aput, ev]) ?_
    refine awp_region rfl ?_
    refine aops_run 3 (by simp only [fwA, ↓reduceIte, Nat.reduceAdd, Nat.reduceMul, Nat.reduceEqDiff, Nat.reduceLT, Nat.reduceLeDiff, reduceCtorEq, w2, w6, fl24_1, ti9, ti50, Tm.fw] <;> rfl) ?_
    refine aops_one rfl (os_lookup (r := rm) (z := .int .i64 0) rfl un50 un9 rfl rfl w5 m1 (fun _ => zero1_spec z3) ?_)
    rw [if_neg (by decide), m2]
    refine aops_run 1 (by simp only [fwA, ↓reduceIte, Nat.reduceAdd, Nat.reduceMul, Nat.reduceEqDiff, Nat.reduceLT, Nat.reduceLeDiff, reduceCtorEq] <;> rfl) ?_
    refine aops_one rfl (os_mapUpdate (r := rm) (.inl rfl) un50 un9 rfl rfl w5 m1 ?_)
    refine ⟨rfl, by simp [akeep, alook, aput, ev], ⟨insK km t.name, updF g t.name (IntKind.i64.wrap (g t.name + 1)), ?_, hkm.put _ _, insK_len _ _, fun s => ?_⟩, rfl⟩
    · show X.set mm (.map (mput (mp km g) (.str t.name) (.int .i64 (IntKind.i64.wrap (g t.name + 1))) rm)) = _
      rw [m3, ← hX, stH_setm]
    · rw [insK_mem]
      constructor
      · rintro (rfl | h)
        · exact .inr ⟨k2, rfl, hf0⟩
        · exact .inl h
      · rintro (h | ⟨_, rfl, _⟩)
        · exact .inr h
        · exact .inl rfl
  obtain ⟨rfl, hA, ⟨km1, g1, rfl, hkm1, hl1, hs1⟩, rfl⟩ := hq
  refine awp_keep _ hA ?_
  have w6 : ∀ kb km f g, (stH H2 mb mm kb f km g)[H.length]? = some (.box t.enc) := fun kb km f g => (stH_at n4.1 n4.2).trans hbox
  refine awp_seq ?_
  refine awp_run rfl (by simp only [fwA, ↓reduceIte, Nat.reduceAdd, Nat.reduceMul, Nat.reduceEqDiff, Nat.reduceLT, Nat.reduceLeDiff, reduceCtorEq, w6, fl24_3, ti22, un22, Tm.fw, List.length_map] <;> rfl) ?_
  refine awp_block ?_
  refine awp_forG [1, 2, 3, 4, 24, 25, 26] (fun s : Nat × List (List UInt8) × List (List UInt8) × (List UInt8 → Int) => [.ptr b1 0, .ptr b2 0, .ptr b3 0, .ptr H.length 0, .vec (t.kids.map Tm.enc) false, .int .i64 t.kids.length, .int .i64 s.1])
    (fun s => stH H2 mb mm s.2.1 f s.2.2.1 s.2.2.2) (fun s => t.kids.length - s.1)
    (fun s => s.1 ≤ t.kids.length ∧ KeysOf s.2.1 f ∧ KeysOf s.2.2.1 s.2.2.2 ∧ s.2.2.1.length + ((t.kids.drop s.1).map Tm.w).sum ≤ km.length + t.w ∧
      ∀ x, x ∈ s.2.2.1 ↔ x ∈ km1 ∨ ∃ (j : Nat) (k : Tm), j < s.1 ∧ t.kids[j]? = some k ∧ x ∈ k.free ∧ ¬ (t.binder = true ∧ j + 1 = t.kids.length ∧ x = t.name) ∧ f x = 0)
    (0, kb, km1, g1) (by simp [alook, aput, ev]) rfl ⟨Nat.zero_le _, hkb, hkm1, by dsimp only; rw [List.drop_zero]; omega, fun x => ⟨.inl, fun h => h.elim id fun ⟨j, k, hj, _⟩ => absurd hj (Nat.not_lt_zero _)⟩⟩
    (fun s _ => ⟨stH_bd2 hW2.ne hbd2 _ _ _ _, by
      have e1 := (List.getElem?_eq_some_iff.1 hW2.h1).1
      have e2 := (List.getElem?_eq_some_iff.1 hW2.h2).1
      have e3 := (List.getElem?_eq_some_iff.1 hW2.h3).1
      rw [hH2l] at e1 e2 e3
      simp only [PV.bdL, PV.bd, stH_len, e1, e2, e3, hH2l, Nat.lt_succ_self, decide_true, Bool.and_self]⟩) (fun s _ b hb => by cases hb) fun s hs => ?_
  obtain ⟨i, kb', km', g'⟩ := s
  obtain ⟨hi, hkb', hkm', hln, hmem⟩ := hs
  dsimp only at hi hkb' hkm' hln hmem ⊢
  refine awp_seq ?_
  refine awp_run rfl (by simp only [fwA, ↓reduceIte, Nat.reduceAdd, Nat.reduceMul, Nat.reduceEqDiff, Nat.reduceLT, Nat.reduceLeDiff, reduceCtorEq] <;> rfl) ?_
  refine awp_seq ?_
  refine awp_cond (by simp only [fwA, ↓reduceIte, Nat.reduceAdd, Nat.reduceMul, Nat.reduceEqDiff, Nat.reduceLT, Nat.reduceLeDiff, reduceCtorEq] <;> rfl) ?_
  by_cases hc : (i : Int) < t.kids.length
  rotate_left
  · simp only [hc, decide_false, Bool.false_eq_true, ↓reduceIte]
    refine awp_exit ?_
    have hie : i = t.kids.length := by omega
    subst hie
    have hset : stH H2 mb mm kb' f km' g' = stH H mb mm kb' f km' g' ++ [.box t.enc] := by rw [← hH2]; exact (stH_app hW.hb hW.hm _).symm
    simp only [Post.block, Post.then, ↓reduceIte]
    rw [hset]
    refine calls_cut (p := .tup []) (stH H mb mm kb' f km' g') [.box t.enc] (.inr rfl) (stH_bd2 hW.ne hbd _ _ _ _) rfl rfl (by rw [stH_len, stH_len]; exact Nat.le_refl _) ⟨kb', km', g', rfl, hkb', hkm', by rw [List.drop_length] at hln; exact hln, fun x => ?_⟩
    show _ ↔ x ∈ km ∨ (x ∈ t.free ∧ f x = 0)
    rw [hmem, hs1, mem_free]
    constructor
    · rintro ((h | ⟨h1, h2, h3⟩) | ⟨j, k, _, h1, h2, h3, h4⟩)
      · exact .inl h
      · exact .inr ⟨.inl ⟨h1, h2⟩, h3⟩
      · exact .inr ⟨.inr ⟨j, k, h1, h2, h3⟩, h4⟩
    · rintro (h | ⟨(⟨h1, h2⟩ | ⟨j, k, h1, h2, h3⟩), h4⟩)
      · exact .inl (.inl h)
      · exact .inl (.inr ⟨h1, h2, h4⟩)
      · exact .inr ⟨j, k, (List.getElem?_eq_some_iff.1 h1).1, h1, h2, h3, h4⟩
  simp only [hc, decide_true, ↓reduceIte]
  refine awp_skip ?_
  have hia : i < t.kids.length := by omega
  have ga : t.kids[i]? = some t.kids[i] := List.getElem?_eq_getElem hia
  have hdr : t.kids.drop i = t.kids[i] :: t.kids.drop (i + 1) := List.drop_eq_getElem_cons hia
  rw [hdr, List.map_cons, List.sum_cons] at hln
  have hkw' := Tm.kid_w (List.getElem_mem hia)
  have ihk := ih t.kids[i] (List.getElem_mem hia) (by omega)
  have hwr : IntKind.i64.wrap ((t.kids.length : Int) - 1) = (t.kids.length : Int) - 1 := wrapId ⟨by omega, by omega⟩
  generalize t.kids[i] = kid at ga hln hkw' ihk
  have fin : ∀ (km3 : List (List UInt8)) (bd : Bool) (f' : List UInt8 → Int), bd = (t.binder && decide (i + 1 = t.kids.length)) → (∀ x, f' x = 0 ↔ ¬ (bd = true ∧ x = t.name) ∧ f x = 0) → (∀ x, x ∈ km3 ↔ x ∈ km' ∨ (x ∈ kid.free ∧ f' x = 0)) →
      ∀ x, x ∈ km3 ↔ x ∈ km1 ∨ ∃ (j : Nat) (k : Tm), j < i + 1 ∧ t.kids[j]? = some k ∧ x ∈ k.free ∧ ¬ (t.binder = true ∧ j + 1 = t.kids.length ∧ x = t.name) ∧ f x = 0 := fun km3 bd f' hbd' hf' hm3 x => by
    have hbq : ∀ y, ¬ (bd = true ∧ y = t.name) ↔ ¬ (t.binder = true ∧ i + 1 = t.kids.length ∧ y = t.name) := fun y => by
      rw [hbd', Bool.and_eq_true, decide_eq_true_eq, and_assoc]
    rw [hm3, hmem]
    constructor
    · rintro ((h | ⟨j, k, h1, h2⟩) | ⟨h1, h2⟩)
      · exact .inl h
      · exact .inr ⟨j, k, by omega, h2⟩
      · have := (hf' x).1 h2
        exact .inr ⟨i, kid, by omega, ga, h1, (hbq x).1 this.1, this.2⟩
    · rintro (h | ⟨j, k, h1, h2, h3, h4, h5⟩)
      · exact .inl (.inl h)
      · by_cases e : j = i
        · subst e
          rw [ga] at h2
          cases h2
          exact .inr ⟨h3, (hf' x).2 ⟨(hbq x).2 h4, h5⟩⟩
        · exact .inl (.inr ⟨j, k, by omega, h2, h3, h4, h5⟩)
  refine awp_seq ?_
  refine awp_block ?_
  refine awp_seq ?_
  -- region 5
  refine awp_run rfl (by simp only [fwA, ↓reduceIte, Nat.reduceAdd, Nat.reduceMul, Nat.reduceEqDiff, Nat.reduceLT, Nat.reduceLeDiff, reduceCtorEq, el22, ti24, Tm.fw, List.getElem?_map, ga, Option.map_some, Int.natCast_nonneg] <;> rfl) ?_
  refine awp_heap (H' := stH (H2 ++ [.box kid.enc]) mb mm kb' f km' g') (by simp only [List.set_append_right, stH_len, Nat.le_refl, Nat.sub_self, List.set_cons_zero, stH_app hW2.hb hW2.hm]) ?_
  refine awp_keep (A' := [(1, .ptr b1 0), (2, .ptr b2 0), (3, .ptr b3 0), (4, .ptr H.length 0), (5, .int .i64 i), (6, .ptr (H.length + 1) 0), (24, .vec (t.kids.map Tm.enc) false), (25, .int .i64 t.kids.length), (26, .int .i64 i)]) [1, 2, 3, 4, 5, 6, 24, 25, 26] (by simp [akeep, alook, aput, ev, stH_len, hH2l]) ?_
  have hW3 := hW2.app [.box kid.enc]
  have v6 : ∀ kb km f g, (stH (H2 ++ [.box kid.enc]) mb mm kb f km g)[H.length]? = some (.box t.enc) := fun kb km f g => (stH_at n4.1 n4.2).trans (get_old _ hbox)
  have n7 : H.length + 1 ≠ mb ∧ H.length + 1 ≠ mm := ⟨by have := hW.hb; omega, by have := hW.hm; omega⟩
  have v7 : ∀ kb km f g, (stH (H2 ++ [.box kid.enc]) mb mm kb f km g)[H.length + 1]? = some (.box kid.enc) := fun kb km f g => (stH_at n7.1 n7.2).trans (by rw [← hH2l]; simp)
  have happ : ∀ kb km f g, stH (H2 ++ [.box kid.enc]) mb mm kb f km g = stH H2 mb mm kb f km g ++ [.box kid.enc] := fun kb km f g => (stH_app hW2.hb hW2.hm _).symm
  have hle3 : ∀ kb km f g kb' km' f' g', (stH H2 mb mm kb f km g).length ≤ (stH H2 mb mm kb' f' km' g').length := fun _ _ _ _ _ _ _ _ => by rw [stH_len, stH_len]; exact Nat.le_refl _
  generalize hH3 : H2 ++ [Blk.box kid.enc] = H3 at hW3 v6 v7 happ ⊢
  refine awp_seq ?_
  -- region 6
  refine AWP.mono (Q := fun e A' H' D' => e = .normal ∧ akeep [1, 2, 3, 4, 6, 7, 24, 25, 26] A' = [(1, .ptr b1 0), (2, .ptr b2 0), (3, .ptr b3 0), (4, .ptr H.length 0), (6, .ptr (H.length + 1) 0), (7, .bool (t.binder && decide (i + 1 = t.kids.length))), (24, .vec (t.kids.map Tm.enc) false), (25, .int .i64 t.kids.length), (26, .int .i64 i)] ∧ H' = stH H3 mb mm kb' f km' g' ∧ D' = []) ?_ fun e A' H' D' hq => ?_
  · refine awp_region rfl ?_
    refine aops_run 1 (by simp only [fwA, ↓reduceIte, Nat.reduceAdd, Nat.reduceMul, Nat.reduceEqDiff, Nat.reduceLT, Nat.reduceLeDiff, reduceCtorEq, v6, ti24, Tm.fw] <;> rfl) ?_
    refine aops_fn rfl rfl rfl en22 (c22 Γ t) ?_
    cases hb : t.binder with
    | false =>
      refine aops_run 9 (by simp only [fwA, ↓reduceIte, Nat.reduceAdd, Nat.reduceMul, Nat.reduceEqDiff, Nat.reduceLT, Nat.reduceLeDiff, reduceCtorEq] <;> rfl) ?_
      exact ⟨rfl, rfl, rfl, rfl⟩
    | true =>
      have hd : decide ((i : Int) = (t.kids.length : Int) - 1) = decide (i + 1 = t.kids.length) := decide_eq_decide.2 (by omega)
      refine aops_run 9 (by simp only [fwA, ↓reduceIte, Nat.reduceAdd, Nat.reduceMul, Nat.reduceEqDiff, Nat.reduceLT, Nat.reduceLeDiff, reduceCtorEq, v6, fl24_3, ti22, un22, Tm.fw, List.length_map, hwr, hd] <;> rfl) ?_
      exact ⟨rfl, by simp [akeep, alook, aput, ev], rfl, rfl⟩
  obtain ⟨rfl, hA, rfl, rfl⟩ := hq
  refine awp_keep _ hA ?_
  generalize hbd7 : (t.binder && decide (i + 1 = t.kids.length)) = bd at fin ⊢
  refine awp_seq ?_
  refine awp_seq ?_
  cases bd with
  | false =>
    refine awp_run rfl (by simp only [fwA, ↓reduceIte, Nat.reduceAdd, Nat.reduceMul, Nat.reduceEqDiff, Nat.reduceLT, Nat.reduceLeDiff, reduceCtorEq] <;> rfl) ?_
    refine awp_cond (b := false) (by simp [alook, aput, ev]) (awp_skip ?_)
    refine awp_seq ?_
    obtain ⟨w1, w2, w3, w4, w5⟩ := hW3.at kb' km' f g'
    refine awp_region rfl ?_
    refine aops_run 2 (by simp only [fwA, ↓reduceIte, Nat.reduceAdd, Nat.reduceMul, Nat.reduceEqDiff, Nat.reduceLT, Nat.reduceLeDiff, reduceCtorEq, w3, v7, ti51, ti24, Tm.fw] <;> rfl) ?_
    refine aops_call rfl rfl rfl en33 ((ihk H3 b1 b2 b3 mb mm kb' km' f g' hW3 hkb' hkm' (fun s => by have := hf s; omega)).mono fun p H' hp => ?_)
    obtain ⟨kb3, km3, g3, rfl, hkb3, hkm3, hl3, hm3⟩ := hp
    refine aops_end ?_
    refine awp_seq ?_
    refine awp_run rfl (by simp only [fwA, ↓reduceIte, Nat.reduceAdd, Nat.reduceMul, Nat.reduceEqDiff, Nat.reduceLT, Nat.reduceLeDiff, reduceCtorEq] <;> rfl) ?_
    refine awp_cond (b := false) (by simp [alook, aput, ev]) (awp_skip ?_)
    refine awp_run rfl (by simp only [fwA, ↓reduceIte, Nat.reduceAdd, Nat.reduceMul, Nat.reduceEqDiff, Nat.reduceLT, Nat.reduceLeDiff, reduceCtorEq] <;> rfl) ?_
    exact ⟨(i + 1, kb3, km3, g3), [.box kid.enc], by dsimp only; omega, ⟨by dsimp only; omega, hkb3, hkm3, by dsimp only; omega, fin km3 false f rfl (fun x => by simp) hm3⟩, by rw [wrapS i (by omega)]; rfl, happ _ _ _ _, rfl, hle3 _ _ _ _ _ _ _ _⟩
  | true =>
    have hfn := hf t.name
    have hw1 : IntKind.i64.wrap (f t.name + 1) = f t.name + 1 := wrapId ⟨by omega, by omega⟩
    have hw2 : IntKind.i64.wrap (f t.name + 1 - 1) = f t.name := by rw [show f t.name + 1 - 1 = f t.name by omega]; exact wrapId ⟨by omega, by omega⟩
    refine awp_run rfl (by simp only [fwA, ↓reduceIte, Nat.reduceAdd, Nat.reduceMul, Nat.reduceEqDiff, Nat.reduceLT, Nat.reduceLeDiff, reduceCtorEq] <;> rfl) ?_
    refine awp_cond (b := true) (by simp [alook, aput, ev]) ?_
    obtain ⟨w1, w2, w3, w4, w5⟩ := hW3.at kb' km' f g'
    obtain ⟨rb, r1, r2, r3⟩ := look_mp (ks := kb') (f := f) t.name hkb'.1 hkb'.2
    refine awp_region rfl ?_
    refine aops_run 3 (by simp only [fwA, ↓reduceIte, Nat.reduceAdd, Nat.reduceMul, Nat.reduceEqDiff, Nat.reduceLT, Nat.reduceLeDiff, reduceCtorEq, w1, v6, fl24_1, ti9, ti50, Tm.fw] <;> rfl) ?_
    refine aops_one rfl (os_lookup (r := rb) (z := .int .i64 0) rfl un50 un9 rfl rfl w4 r1 (fun _ => zero1_spec z3) ?_)
    rw [if_neg (by decide), r2]
    refine aops_run 1 (by simp only [fwA, ↓reduceIte, Nat.reduceAdd, Nat.reduceMul, Nat.reduceEqDiff, Nat.reduceLT, Nat.reduceLeDiff, reduceCtorEq, hw1] <;> rfl) ?_
    refine aops_one rfl (os_mapUpdate (r := rb) (.inl rfl) un50 un9 rfl rfl w4 r1 ?_)
    refine aops_end ?_
    refine awp_heap (H' := stH H3 mb mm (insK kb' t.name) (updF f t.name (f t.name + 1)) km' g') (by
      show (stH H3 mb mm kb' f km' g').set mb (.map (mput (mp kb' f) (.str t.name) (.int .i64 (f t.name + 1)) rb)) = _
      rw [r3, stH_setb hW3.ne]) ?_
    have hkb2 := hkb'.put t.name (f t.name + 1)
    have hf2 : ∀ s, 0 ≤ updF f t.name (f t.name + 1) s ∧ updF f t.name (f t.name + 1) s + kid.w ≤ 2000000000 := fun s => by
      by_cases e : s = t.name
      · subst e; rw [updF_same]; omega
      · rw [updF_other _ _ e]; have := hf s; omega
    obtain ⟨w1, w2, w3, w4, w5⟩ := hW3.at (insK kb' t.name) km' (updF f t.name (f t.name + 1)) g'
    refine awp_seq ?_
    refine awp_region rfl ?_
    refine aops_run 2 (by simp only [fwA, ↓reduceIte, Nat.reduceAdd, Nat.reduceMul, Nat.reduceEqDiff, Nat.reduceLT, Nat.reduceLeDiff, reduceCtorEq, w3, v7, ti51, ti24, Tm.fw] <;> rfl) ?_
    refine aops_call rfl rfl rfl en33 ((ihk H3 b1 b2 b3 mb mm _ km' _ g' hW3 hkb2 hkm' hf2).mono fun p H' hp => ?_)
    obtain ⟨kb3, km3, g3, rfl, hkb3, hkm3, hl3, hm3⟩ := hp
    refine aops_end ?_
    refine awp_seq ?_
    refine awp_run rfl (by simp only [fwA, ↓reduceIte, Nat.reduceAdd, Nat.reduceMul, Nat.reduceEqDiff, Nat.reduceLT, Nat.reduceLeDiff, reduceCtorEq] <;> rfl) ?_
    refine awp_cond (b := true) (by simp [alook, aput, ev]) ?_
    obtain ⟨w1, w2, w3, w4, w5⟩ := hW3.at kb3 km3 (updF f t.name (f t.name + 1)) g3
    obtain ⟨rb, r1, r2, r3⟩ := look_mp (ks := kb3) (f := updF f t.name (f t.name + 1)) t.name hkb3.1 hkb3.2
    rw [updF_same] at r2
    refine awp_region rfl ?_
    refine aops_run 3 (by simp only [fwA, ↓reduceIte, Nat.reduceAdd, Nat.reduceMul, Nat.reduceEqDiff, Nat.reduceLT, Nat.reduceLeDiff, reduceCtorEq, w1, v6, fl24_1, ti9, ti50, Tm.fw] <;> rfl) ?_
    refine aops_one rfl (os_lookup (r := rb) (z := .int .i64 0) rfl un50 un9 rfl rfl w4 r1 (fun _ => zero1_spec z3) ?_)
    rw [if_neg (by decide), r2]
    refine aops_run 1 (by simp only [fwA, ↓reduceIte, Nat.reduceAdd, Nat.reduceMul, Nat.reduceEqDiff, Nat.reduceLT, Nat.reduceLeDiff, reduceCtorEq, hw2] <;> rfl) ?_
    refine aops_one rfl (os_mapUpdate (r := rb) (.inl rfl) un50 un9 rfl rfl w4 r1 ?_)
    refine aops_end ?_
    have hkb4 := hkb3.put t.name (f t.name)
    have r3' := r3 (f t.name)
    rw [updF_back] at hkb4 r3'
    refine awp_heap (H' := stH H3 mb mm (insK kb3 t.name) f km3 g3) (by
      show (stH H3 mb mm kb3 (updF f t.name (f t.name + 1)) km3 g3).set mb (.map (mput (mp kb3 (updF f t.name (f t.name + 1))) (.str t.name) (.int .i64 (f t.name)) rb)) = _
      rw [r3', stH_setb hW3.ne]) ?_
    refine awp_run rfl (by simp only [fwA, ↓reduceIte, Nat.reduceAdd, Nat.reduceMul, Nat.reduceEqDiff, Nat.reduceLT, Nat.reduceLeDiff, reduceCtorEq] <;> rfl) ?_
    refine ⟨(i + 1, insK kb3 t.name, km3, g3), [.box kid.enc], by dsimp only; omega, ⟨by dsimp only; omega, hkb4, hkm3, by dsimp only; omega, fin km3 true _ rfl (fun x => ?_) hm3⟩, by rw [wrapS i (by omega)]; rfl, happ _ _ _ _, rfl, hle3 _ _ _ _ _ _ _ _⟩
    by_cases e : x = t.name
    · subst e
      rw [updF_same]
      exact ⟨fun h => by omega, fun h => absurd ⟨rfl, rfl⟩ h.1⟩
    · rw [updF_other _ _ e]
      exact ⟨fun h => ⟨fun a => e a.2, h⟩, fun h => h.2⟩

/-- term.Free -/
theorem c20 (Γ : Nat → PV) (t : Tm) (hw : t.w ≤ 1000000000) : Gives Tryd.prog Γ 20 [.agg t.enc] (.vec (t.free.map S1) false) := by
  refine fn_of_awp Tryd.func20 rfl (by simp [Tryd.f20]) rfl fun H => ?_
  refine awp_seq ?_
  refine awp_run rfl (by simp only [fwA, ↓reduceIte, Nat.reduceAdd, Nat.reduceMul, Nat.reduceEqDiff, Nat.reduceLT, Nat.reduceLeDiff, reduceCtorEq, Tm.fw] <;> rfl) ?_
  refine awp_seq ?_
  refine awp_region rfl ?_
  refine aops_one rfl (os_makeMap rfl ?_)
  refine aops_run 2 (by simp only [fwA, ↓reduceIte, Nat.reduceAdd, Nat.reduceMul, Nat.reduceEqDiff, Nat.reduceLT, Nat.reduceLeDiff, reduceCtorEq, ti50] <;> rfl) ?_
  refine awp_seq ?_
  refine awp_region rfl ?_
  refine aops_one rfl (os_makeMap rfl ?_)
  refine aops_run 2 (by simp only [fwA, ↓reduceIte, Nat.reduceAdd, Nat.reduceMul, Nat.reduceEqDiff, Nat.reduceLT, Nat.reduceLeDiff, reduceCtorEq, ti50] <;> rfl) ?_
  refine awp_seq ?_
  refine awp_run rfl (by simp only [fwA, ↓reduceIte, Nat.reduceAdd, Nat.reduceMul, Nat.reduceEqDiff, Nat.reduceLT, Nat.reduceLeDiff, reduceCtorEq, ti51] <;> rfl) ?_
  refine awp_seq ?_
  refine awp_run rfl (by simp only [fwA, ↓reduceIte, Nat.reduceAdd, Nat.reduceMul, Nat.reduceEqDiff, Nat.reduceLT, Nat.reduceLeDiff, reduceCtorEq, ti51] <;> rfl) ?_
  have key : Walk (H ++ [.box t.enc, .map [], .box [.map (H.length + 1)], .map [], .box [.map (H.length + 3)], .box [.func (.func 33) [] [.ptr (H.length + 4) 0, .ptr (H.length + 2) 0, .ptr (H.length + 5) 0]]]) (H.length + 4) (H.length + 2) (H.length + 5) (H.length + 3) (H.length + 1) :=
    ⟨by simp, by simp, by omega, by rw [Fw.get_at]; rfl, by rw [Fw.get_at]; rfl, by rw [Fw.get_at]; rfl, by omega, by omega, by omega⟩
  refine awp_heap (H' := stH (H ++ [.box t.enc, .map [], .box [.map (H.length + 1)], .map [], .box [.map (H.length + 3)], .box [.func (.func 33) [] [.ptr (H.length + 4) 0, .ptr (H.length + 2) 0, .ptr (H.length + 5) 0]]]) (H.length + 3) (H.length + 1) [] (fun _ => 0) [] (fun _ => 0)) (by simp [stH, mp]) ?_
  have hbox : ∀ kb km f g, (stH (H ++ [.box t.enc, .map [], .box [.map (H.length + 1)], .map [], .box [.map (H.length + 3)], .box [.func (.func 33) [] [.ptr (H.length + 4) 0, .ptr (H.length + 2) 0, .ptr (H.length + 5) 0]]]) (H.length + 3) (H.length + 1) kb f km g)[H.length]? = some (.box t.enc) := fun kb km f g => (stH_at (by omega) (by omega)).trans (by rw [get_at0]; rfl)
  have hpre : ∀ kb km f g, ∃ L, stH (H ++ [.box t.enc, .map [], .box [.map (H.length + 1)], .map [], .box [.map (H.length + 3)], .box [.func (.func 33) [] [.ptr (H.length + 4) 0, .ptr (H.length + 2) 0, .ptr (H.length + 5) 0]]]) (H.length + 3) (H.length + 1) kb f km g = H ++ L := fun kb km f g => ⟨_, by unfold stH; rw [set_at, set_at]⟩
  refine awp_keep (A' := [(1, .ptr H.length 0), (2, .vec [] true), (3, .ptr (H.length + 2) 0), (4, .ptr (H.length + 4) 0), (5, .ptr (H.length + 5) 0)]) [1, 2, 3, 4, 5] (by simp [akeep, alook, aput, ev]) ?_
  generalize H ++ [Blk.box t.enc, .map [], .box [.map (H.length + 1)], .map [], .box [.map (H.length + 3)], .box [.func (.func 33) [] [.ptr (H.length + 4) 0, .ptr (H.length + 2) 0, .ptr (H.length + 5) 0]]] = H2 at key hbox hpre ⊢
  have k0 : KeysOf [] (fun _ => (0 : Int)) := ⟨List.nodup_nil, fun s _ => rfl⟩
  obtain ⟨w1, w2, w3, w4, w5⟩ := key.at [] [] (fun _ => 0) (fun _ => 0)
  refine awp_seq ?_
  refine awp_region rfl ?_
  refine aops_run 2 (by simp only [fwA, ↓reduceIte, Nat.reduceAdd, Nat.reduceMul, Nat.reduceEqDiff, Nat.reduceLT, Nat.reduceLeDiff, reduceCtorEq, hbox, w3, ti51, ti24, Tm.fw] <;> rfl) ?_
  refine aops_call rfl rfl rfl en33 ((c33 Γ t hw H2 _ _ _ _ _ _ _ _ _ key k0 k0 (fun s => ⟨Int.le_refl _, by show (0 : Int) + t.w ≤ _; omega⟩)).mono fun p H' hp => ?_)
  obtain ⟨kb3, km3, g3, rfl, hkb3, hkm3, hl3, hm3⟩ := hp
  refine aops_end ?_
  obtain ⟨w1, w2, w3, w4, w5⟩ := key.at kb3 km3 (fun _ => 0) g3
  have hml : (H.length + 1) < (stH H2 (H.length + 3) (H.length + 1) kb3 (fun _ => 0) km3 g3).length := by rw [stH_len]; exact key.hm
  obtain ⟨L, hL⟩ := hpre kb3 km3 (fun _ => 0) g3
  rw [hL] at w2 w5 hml ⊢
  refine awp_seq ?_
  refine awp_region rfl ?_
  refine aops_run 1 (by simp only [fwA, ↓reduceIte, Nat.reduceAdd, Nat.reduceMul, Nat.reduceEqDiff, Nat.reduceLT, Nat.reduceLeDiff, reduceCtorEq, w2, ti50] <;> rfl) ?_
  refine aops_call rfl rfl rfl en35 ((c35 Γ _ _ hml).mono fun p H' hp => ?_)
  obtain ⟨rfl, rfl⟩ := hp
  have hsrt : km3.mergeSort leB = t.free := sorted_is hkm3.1 (rising_free t) fun s => by
    rw [hm3]
    show s ∈ [] ∨ (s ∈ t.free ∧ (0 : Int) = 0) ↔ s ∈ t.free
    simp
  refine aops_call rfl rfl rfl en34 ((c34 Γ _ (H ++ L).length (H.length + 1) (mp km3 g3) km3 (by simp) (by rw [List.getElem?_append_left hml]; exact w5) (by unfold mp; rw [List.map_map]; rfl) hkm3.1 (by rw [List.length_nil] at hl3; omega)).mono fun p H' hp => ?_)
  obtain ⟨rfl, rfl⟩ := hp
  rw [hsrt]
  refine aops_run 1 (by simp only [fwA, ↓reduceIte, Nat.reduceAdd, Nat.reduceMul, Nat.reduceEqDiff, Nat.reduceLT, Nat.reduceLeDiff, reduceCtorEq] <;> rfl) ?_
  refine aops_end ?_
  exact awp_ret (gives_end (.inl rfl) _ rfl)

end Go.Proofs.YtlbmlhpjibgepaaDoor

/- The chapter's examples. -/
namespace Go.Proofs.YtlbmlhpjibgepaaDoor
set_option linter.unusedVariables false
set_option linter.unusedSimpArgs false
set_option maxRecDepth 100000
open Go.RowKit Fw

/-- Whether a text is a name, computed. -/
def nameB (s : List UInt8) : Bool := decide (1 ≤ s.length) && decide (s.length ≤ 16) && (List.range s.length).all fun j => nmAt j (s.getD j 0)
theorem nameB_iff {s : List UInt8} : nameB s = true ↔ nameP s := by
  unfold nameB nameP nmPre
  rw [Bool.and_eq_true, Bool.and_eq_true, decide_eq_true_eq, decide_eq_true_eq, List.all_eq_true, and_assoc]
  refine and_congr Iff.rfl (and_congr Iff.rfl ⟨fun h j hj c hc => ?_, fun h j hj => ?_⟩)
  · have := h j (List.mem_range.2 hj)
    rwa [List.getD_eq_getElem?_getD, hc] at this
  · have hj' := List.mem_range.1 hj
    rw [List.getD_eq_getElem?_getD, List.getElem?_eq_getElem hj']
    exact h j hj' _ (List.getElem?_eq_getElem hj')
def wordB (s : List UInt8) : Bool := nameB s && !decide (s ∈ kws)
theorem wordB_iff {s : List UInt8} : wordB s = true ↔ wordP s := by
  unfold wordB wordP
  rw [Bool.and_eq_true, nameB_iff, Bool.not_eq_true', decide_eq_false_iff_not]
def nmB (t : Tm) : Bool := if t.kind = 12 then decide (t.name ∈ opNs) else if t.kind = 2 ∨ t.binder = true then wordB t.name else decide (t.name = [])
theorem nmB_iff {t : Tm} : nmB t = true ↔ nmOk t := by
  unfold nmB nmOk
  split
  · rw [decide_eq_true_eq]
  · split
    · exact wordB_iff
    · rw [decide_eq_true_eq]
def nodeB (t : Tm) : Bool := (decide (1 ≤ t.kind) && decide (t.kind < 14)) && (decide ((t.kids.length : Int) = kidsTab.getD t.kind.toNat 0) && ((decide (t.kind = 1) || decide (t.n = 0)) && (decide (0 ≤ t.n) && (decide (t.n < 2147483648) && nmB t))))
theorem nodeB_iff {t : Tm} : nodeB t = true ↔ nodeP t := by
  unfold nodeB nodeP
  simp only [Bool.and_eq_true, Bool.or_eq_true, decide_eq_true_eq, nmB_iff]
  refine and_congr Iff.rfl (and_congr Iff.rfl (and_congr ⟨fun h a => h.resolve_left a, fun h => ?_⟩ Iff.rfl))
  by_cases e : t.kind = 1
  · exact .inl e
  · exact .inr (h e)
namespace Tm
mutual
def okB : Tm → Bool
  | mk k s n ks => nodeB (mk k s n ks) && okBs ks
def okBs : List Tm → Bool
  | [] => true
  | t :: ts => okB t && okBs ts
end
theorem okBs_all : ∀ l : List Tm, okBs l = l.all okB
  | [] => rfl
  | t :: l => by rw [okBs, List.all_cons, okBs_all l]
theorem okB_eq (t : Tm) : t.okB = (nodeB t && t.kids.all okB) := by cases t; rw [okB, okBs_all]; rfl
theorem okB_iff : ∀ t : Tm, t.okB = true ↔ Nodes t := by
  refine ind fun t ih => ?_
  rw [okB_eq, Bool.and_eq_true, nodeB_iff, List.all_eq_true]
  exact ⟨fun h => .mk t h.1 fun k hk => (ih k hk).1 (h.2 k hk), fun h => ⟨h.node, fun k hk => (ih k hk).2 (h.kids k hk)⟩⟩
end Tm
theorem rightB {t : Tm} (h : (decide (t.dep ≤ 200) && (decide (t.w ≤ 10000) && t.okB)) = true) : decide (RightT t) = true := by
  rw [Bool.and_eq_true, Bool.and_eq_true, decide_eq_true_eq, decide_eq_true_eq, Tm.okB_iff] at h
  exact decide_eq_true h
theorem wrongB {t : Tm} (h : t.okB = false) : decide (RightT t) = false := by
  refine decide_eq_false fun hr => ?_
  rw [(Tm.okB_iff t).2 hr.2.2] at h
  cases h

theorem leaf_le (k n : Int) (s : List UInt8) : PV.leL [.int .i64 k, .str s, .int .i64 n, .vec [] true] (Tm.mk k s n []).enc := by
  rw [show (Tm.mk k s n []).enc = [.int .i64 k, .str s, .int .i64 n, .vec [] false] from Tm.enc_eq _]
  exact ⟨rfl, rfl, rfl, ⟨nofun, trivial⟩, trivial⟩
theorem two_le (k : Int) (s : List UInt8) (a b : Tm) : PV.leL [.int .i64 k, .str s, .int .i64 0, .vec [a.enc, b.enc] true] (Tm.mk k s 0 [a, b]).enc := by
  rw [show (Tm.mk k s 0 [a, b]).enc = [.int .i64 k, .str s, .int .i64 0, .vec [a.enc, b.enc] false] from Tm.enc_eq _]
  exact ⟨rfl, rfl, rfl, ⟨nofun, PV.leLL_refl _⟩, trivial⟩
theorem one_le (k : Int) (s : List UInt8) (a : Tm) : PV.leL [.int .i64 k, .str s, .int .i64 0, .vec [a.enc] true] (Tm.mk k s 0 [a]).enc := by
  rw [show (Tm.mk k s 0 [a]).enc = [.int .i64 k, .str s, .int .i64 0, .vec [a.enc] false] from Tm.enc_eq _]
  exact ⟨rfl, rfl, rfl, ⟨nofun, PV.leLL_refl _⟩, trivial⟩
theorem c24e (Γ : Nat → PV) (k : Int) (nm : List UInt8) (a b : Tm) : Gives Tryd.prog Γ 24 [.int .i64 k, .str nm, .agg a.enc, .agg b.enc] (.agg (Tm.mk k nm 0 [a, b]).enc) := (c24 Γ k nm a b).res (two_le k nm a b)
theorem c26e (Γ : Nat → PV) (n : Int) : Gives Tryd.prog Γ 26 [.int .i64 n] (.agg (Tm.mk 1 [] n []).enc) := (c26 Γ n).res (leaf_le 1 n [])
theorem c27e (Γ : Nat → PV) (s : List UInt8) : Gives Tryd.prog Γ 27 [.str s] (.agg (Tm.mk 2 s 0 []).enc) := (c27 Γ s).res (leaf_le 2 0 s)

def xT : Tm := .mk 2 [120] 0 []
def yT : Tm := .mk 2 [121] 0 []
def aT : Tm := .mk 4 [] 0 [xT, yT]
def fT : Tm := .mk 3 [120] 0 [aT]
def gT : Tm := .mk 5 [120] 0 [xT, fT]
def badT : Tm := .mk 3 [102, 117, 110] 0 [aT]
def oneT : Tm := .mk 1 [] 1 []
def twoT : Tm := .mk 1 [] 2 []
def ltT : Tm := .mk 12 [60] 0 [oneT, twoT]
def gtT : Tm := .mk 12 [62] 0 [oneT, twoT]
def bigT : Tm := .mk 1 [] 2147483648 []
def nilT : Tm := .mk 0 [] 0 []
theorem gt_w : gT.w ≤ 10 := by decide

set_option maxHeartbeats 4000000 in
/-- chancellaw03.examples -/
theorem c9 (Γ : Nat → PV) (hΓ : Tab Γ) : Gives Tryd.prog Γ 9 [] (.bool true) := by
  have hx := c27e Γ [120]
  have hy := c27e Γ [121]
  have h1 := c26e Γ 1
  have h2 := c26e Γ 2
  have hB := c26e Γ 2147483648
  have ha := c24e Γ 4 [] xT yT
  have hg := c24e Γ 5 [120] xT fT
  have hlt := c24e Γ 12 [60] oneT twoT
  have hgt := c24e Γ 12 [62] oneT twoT
  have sf := c11 Γ fT (by decide)
  rw [show (fT.w : Int) = 4 by decide] at sf
  have dg := c13 Γ gT (by decide)
  rw [show (gT.dep : Int) = 4 by decide] at dg
  have rg := c15 Γ hΓ gT (by decide)
  rw [rightB (by decide)] at rg
  have rb := c15 Γ hΓ badT (by decide)
  rw [wrongB (by decide)] at rb
  have ff := c20 Γ fT (by decide)
  rw [show fT.free = [[121]] by decide] at ff
  have fg := c20 Γ gT (by decide)
  rw [show gT.free = [[120], [121]] by decide] at fg
  have t1 := c19 Γ [[121]] [[121]] false true
  rw [decide_eq_true rfl] at t1
  have t2 := c19 Γ [[120], [121]] [[120], [121]] false true
  rw [decide_eq_true rfl] at t2
  have bf := c22 Γ fT
  rw [show fT.binder = true by decide] at bf
  have bx := c22 Γ xT
  rw [show xT.binder = false by decide] at bx
  have s1 := c17 Γ fT fT
  rw [decide_eq_true rfl] at s1
  have s2 := c17 Γ fT gT
  rw [decide_eq_false (fun e => absurd (congrArg Tm.kind e) (by decide))] at s2
  have rB := c15 Γ hΓ bigT (by decide)
  rw [wrongB (by decide)] at rB
  have rn := c15 Γ hΓ nilT (by decide)
  rw [wrongB (by decide)] at rn
  have rl := c15 Γ hΓ ltT (by decide)
  rw [rightB (by decide)] at rl
  have rr := c15 Γ hΓ gtT (by decide)
  rw [wrongB (by decide)] at rr
  have fle : PV.leL [.int .i64 3, .str [120], .int .i64 0, .vec [aT.enc] true] fT.enc := one_le 3 [120] aT
  have nle : PV.leL [PV.agg [.int .i64 0, .str [], .int .i64 0, .vec [] true]] [.agg nilT.enc] := ⟨leaf_le 0 0 [], trivial⟩
  have bde : ∀ s, (s :: (fT.enc.drop 2)) = s :: fT.enc.drop 2 := fun _ => rfl
  have fenc : fT.enc = [.int .i64 3, .str [120], .int .i64 0, .vec [aT.enc] false] := Tm.enc_eq _
  have benc : [.int .i64 3, .str [102, 117, 110], .int .i64 0, .vec [aT.enc] false] = badT.enc := (Tm.enc_eq badT).symm
  refine fn_of_awp Tryd.func9 rfl (by simp [Tryd.f9]) rfl fun H => ?_
  refine awp_seq ?_
  refine awp_run rfl (by simp only [fwA, ↓reduceIte, Nat.reduceAdd, Nat.reduceMul, Nat.reduceEqDiff, Nat.reduceLT, Nat.reduceLeDiff, reduceCtorEq] <;> rfl) ?_
  refine awp_seq ?_
  -- region 1
  refine awp_region rfl ?_
  refine aops_fn rfl rfl rfl en27 hx ?_
  refine aops_fn rfl rfl rfl en27 hy ?_
  refine aops_fn rfl rfl rfl en24 ha ?_
  refine aops_run 4 (by simp only [fwA, ↓reduceIte, Nat.reduceAdd, Nat.reduceMul, Nat.reduceEqDiff, Nat.reduceLT, Nat.reduceLeDiff, reduceCtorEq, Tm.fw, ti24, ti9, fl24_1, un22, pl24, un37, decide_true, decide_false, Int.reduceEq, Bool.and_self, PV.bdL_append, List.take_zero, List.append_nil, Bool.not_true, Bool.not_false] <;> rfl) ?_
  refine aops_end ?_
  refine awp_heap (H' := H ++ [.box [.int .i64 3, .str [120], .int .i64 0, .vec [aT.enc] true]]) (by simp [aT]) ?_
  refine awp_told (told_leBox H.length (get_at0 H _) fle) ?_
  refine awp_heap (H' := H ++ [.box fT.enc]) (by simp) ?_
  refine awp_keep (A' := [(0, .bool false), (1, .ptr H.length 0)]) [0, 1] (by simp [akeep, alook, aput, ev]) ?_
  refine awp_seq ?_
  -- region 2
  refine awp_drawn [0, 4, 0, 3, 2] [0, 0, 3, 0, 15] mixed rfl (by kernel_rfl) ?_
  refine dops_fn rfl rfl rfl rfl en27 hx ?_
  refine dops_run 1 (by simp only [fwA, ↓reduceIte, Nat.reduceAdd, Nat.reduceMul, Nat.reduceEqDiff, Nat.reduceLT, Nat.reduceLeDiff, reduceCtorEq, Tm.fw, ti24, ti9, fl24_1, un22, pl24, un37, decide_true, decide_false, Int.reduceEq, Bool.and_self, PV.bdL_append, List.take_zero, List.append_nil, Bool.not_true, Bool.not_false] <;> rfl) ?_
  refine dops_fn rfl rfl rfl rfl en24 hg ?_
  refine dops_make1 rfl rfl (by simp only [fwA, ↓reduceIte, Nat.reduceAdd, Nat.reduceMul, Nat.reduceEqDiff, Nat.reduceLT, Nat.reduceLeDiff, reduceCtorEq, Tm.fw, ti24, ti9, fl24_1, un22, pl24, un37, decide_true, decide_false, Int.reduceEq, Bool.and_self, PV.bdL_append, List.take_zero, List.append_nil, Bool.not_true, Bool.not_false] <;> rfl) (by simp [View.vw, List.take_append]) ?_
  refine dops_run 1 (by simp only [fwA, ↓reduceIte, Nat.reduceAdd, Nat.reduceMul, Nat.reduceEqDiff, Nat.reduceLT, Nat.reduceLeDiff, reduceCtorEq, Tm.fw, ti24, ti9, fl24_1, un22, pl24, un37, decide_true, decide_false, Int.reduceEq, Bool.and_self, PV.bdL_append, List.take_zero, List.append_nil, Bool.not_true, Bool.not_false] <;> rfl) ?_
  refine dops_end ?_
  refine awp_heap (H' := H ++ [.box fT.enc, .box gT.enc]) (by simp; rfl) ?_
  refine awp_keep (A' := [(0, .bool false), (1, .ptr H.length 0), (2, .ptr (H.length + 1) 0)]) [0, 1, 2] (by simp [akeep, alook, aput, ev]) ?_
  refine awp_seq ?_
  -- region 3
  refine awp_run rfl (by simp only [fwA, ↓reduceIte, Nat.reduceAdd, Nat.reduceMul, Nat.reduceEqDiff, Nat.reduceLT, Nat.reduceLeDiff, reduceCtorEq, Tm.fw, ti24, ti9, fl24_1, un22, pl24, un37, decide_true, decide_false, Int.reduceEq, Bool.and_self, PV.bdL_append, List.take_zero, List.append_nil, Bool.not_true, Bool.not_false] <;> rfl) ?_
  refine awp_seq ?_
  -- region 4
  refine awp_heap (H' := H ++ [.box fT.enc, .box gT.enc, .box [.int .i64 3, .str [120], .int .i64 0, .vec [aT.enc] false]]) (by simp [fenc]) ?_
  refine awp_run rfl (by simp only [fwA, ↓reduceIte, Nat.reduceAdd, Nat.reduceMul, Nat.reduceEqDiff, Nat.reduceLT, Nat.reduceLeDiff, reduceCtorEq, Tm.fw, ti24, ti9, fl24_1, un22, pl24, un37, decide_true, decide_false, Int.reduceEq, Bool.and_self, PV.bdL_append, List.take_zero, List.append_nil, Bool.not_true, Bool.not_false] <;> rfl) ?_
  refine awp_heap (H' := H ++ [.box fT.enc, .box gT.enc, .box badT.enc]) (by rw [← benc]) ?_
  refine awp_keep (A' := [(0, .bool false), (1, .ptr H.length 0), (2, .ptr (H.length + 1) 0), (3, .ptr (H.length + 2) 0)]) [0, 1, 2, 3] (by simp [akeep, alook, aput, ev]) ?_
  refine awp_seq ?_
  -- region 5
  refine awp_region rfl ?_
  refine aops_run 1 (by simp only [fwA, ↓reduceIte, Nat.reduceAdd, Nat.reduceMul, Nat.reduceEqDiff, Nat.reduceLT, Nat.reduceLeDiff, reduceCtorEq, Tm.fw, ti24, ti9, fl24_1, un22, pl24, un37, decide_true, decide_false, Int.reduceEq, Bool.and_self, PV.bdL_append, List.take_zero, List.append_nil, Bool.not_true, Bool.not_false] <;> rfl) ?_
  refine aops_fn rfl rfl rfl en11 sf ?_
  refine aops_run 3 (by simp only [fwA, ↓reduceIte, Nat.reduceAdd, Nat.reduceMul, Nat.reduceEqDiff, Nat.reduceLT, Nat.reduceLeDiff, reduceCtorEq, Tm.fw, ti24, ti9, fl24_1, un22, pl24, un37, decide_true, decide_false, Int.reduceEq, Bool.and_self, PV.bdL_append, List.take_zero, List.append_nil, Bool.not_true, Bool.not_false] <;> rfl) ?_
  refine aops_fnIf rfl rfl rfl rfl rfl en13 dg ?_
  refine aops_run 4 (by simp only [fwA, ↓reduceIte, Nat.reduceAdd, Nat.reduceMul, Nat.reduceEqDiff, Nat.reduceLT, Nat.reduceLeDiff, reduceCtorEq, Tm.fw, ti24, ti9, fl24_1, un22, pl24, un37, decide_true, decide_false, Int.reduceEq, Bool.and_self, PV.bdL_append, List.take_zero, List.append_nil, Bool.not_true, Bool.not_false] <;> rfl) ?_
  refine aops_fnIf rfl rfl rfl rfl rfl en15 rg ?_
  refine aops_run 3 (by simp only [fwA, ↓reduceIte, Nat.reduceAdd, Nat.reduceMul, Nat.reduceEqDiff, Nat.reduceLT, Nat.reduceLeDiff, reduceCtorEq, Tm.fw, ti24, ti9, fl24_1, un22, pl24, un37, decide_true, decide_false, Int.reduceEq, Bool.and_self, PV.bdL_append, List.take_zero, List.append_nil, Bool.not_true, Bool.not_false] <;> rfl) ?_
  refine aops_fnIf rfl rfl rfl rfl rfl en15 rb ?_
  refine aops_run 4 (by simp only [fwA, ↓reduceIte, Nat.reduceAdd, Nat.reduceMul, Nat.reduceEqDiff, Nat.reduceLT, Nat.reduceLeDiff, reduceCtorEq, Tm.fw, ti24, ti9, fl24_1, un22, pl24, un37, decide_true, decide_false, Int.reduceEq, Bool.and_self, PV.bdL_append, List.take_zero, List.append_nil, Bool.not_true, Bool.not_false] <;> rfl) ?_
  refine aops_fnIf rfl rfl rfl rfl rfl en20 ff ?_
  refine aops_run 1 (by simp only [fwA, ↓reduceIte, Nat.reduceAdd, Nat.reduceMul, Nat.reduceEqDiff, Nat.reduceLT, Nat.reduceLeDiff, reduceCtorEq, Tm.fw, ti24, ti9, fl24_1, un22, pl24, un37, decide_true, decide_false, Int.reduceEq, Bool.and_self, PV.bdL_append, List.take_zero, List.append_nil, Bool.not_true, Bool.not_false] <;> rfl) ?_
  refine aops_fnIf rfl rfl rfl rfl rfl en19 t1 ?_
  refine aops_run 3 (by simp only [fwA, ↓reduceIte, Nat.reduceAdd, Nat.reduceMul, Nat.reduceEqDiff, Nat.reduceLT, Nat.reduceLeDiff, reduceCtorEq, Tm.fw, ti24, ti9, fl24_1, un22, pl24, un37, decide_true, decide_false, Int.reduceEq, Bool.and_self, PV.bdL_append, List.take_zero, List.append_nil, Bool.not_true, Bool.not_false] <;> rfl) ?_
  refine aops_fnIf rfl rfl rfl rfl rfl en20 fg ?_
  refine aops_run 1 (by simp only [fwA, ↓reduceIte, Nat.reduceAdd, Nat.reduceMul, Nat.reduceEqDiff, Nat.reduceLT, Nat.reduceLeDiff, reduceCtorEq, Tm.fw, ti24, ti9, fl24_1, un22, pl24, un37, decide_true, decide_false, Int.reduceEq, Bool.and_self, PV.bdL_append, List.take_zero, List.append_nil, Bool.not_true, Bool.not_false] <;> rfl) ?_
  refine aops_fnIf rfl rfl rfl rfl rfl en19 t2 ?_
  refine aops_run 3 (by simp only [fwA, ↓reduceIte, Nat.reduceAdd, Nat.reduceMul, Nat.reduceEqDiff, Nat.reduceLT, Nat.reduceLeDiff, reduceCtorEq, Tm.fw, ti24, ti9, fl24_1, un22, pl24, un37, decide_true, decide_false, Int.reduceEq, Bool.and_self, PV.bdL_append, List.take_zero, List.append_nil, Bool.not_true, Bool.not_false] <;> rfl) ?_
  refine aops_fnIf rfl rfl rfl rfl rfl en22 bf ?_
  refine aops_run 2 (by simp only [fwA, ↓reduceIte, Nat.reduceAdd, Nat.reduceMul, Nat.reduceEqDiff, Nat.reduceLT, Nat.reduceLeDiff, reduceCtorEq, Tm.fw, ti24, ti9, fl24_1, un22, pl24, un37, decide_true, decide_false, Int.reduceEq, Bool.and_self, PV.bdL_append, List.take_zero, List.append_nil, Bool.not_true, Bool.not_false] <;> rfl) ?_
  refine aops_fnIf rfl rfl rfl rfl rfl en27 hx ?_
  refine aops_fnIf rfl rfl rfl rfl rfl en22 bx ?_
  refine aops_run 5 (by simp only [fwA, ↓reduceIte, Nat.reduceAdd, Nat.reduceMul, Nat.reduceEqDiff, Nat.reduceLT, Nat.reduceLeDiff, reduceCtorEq, Tm.fw, ti24, ti9, fl24_1, un22, pl24, un37, decide_true, decide_false, Int.reduceEq, Bool.and_self, PV.bdL_append, List.take_zero, List.append_nil, Bool.not_true, Bool.not_false] <;> rfl) ?_
  refine aops_fnIf rfl rfl rfl rfl rfl en17 s1 ?_
  refine aops_run 4 (by simp only [fwA, ↓reduceIte, Nat.reduceAdd, Nat.reduceMul, Nat.reduceEqDiff, Nat.reduceLT, Nat.reduceLeDiff, reduceCtorEq, Tm.fw, ti24, ti9, fl24_1, un22, pl24, un37, decide_true, decide_false, Int.reduceEq, Bool.and_self, PV.bdL_append, List.take_zero, List.append_nil, Bool.not_true, Bool.not_false] <;> rfl) ?_
  refine aops_fnIf rfl rfl rfl rfl rfl en17 s2 ?_
  refine aops_run 3 (by simp only [fwA, ↓reduceIte, Nat.reduceAdd, Nat.reduceMul, Nat.reduceEqDiff, Nat.reduceLT, Nat.reduceLeDiff, reduceCtorEq, Tm.fw, ti24, ti9, fl24_1, un22, pl24, un37, decide_true, decide_false, Int.reduceEq, Bool.and_self, PV.bdL_append, List.take_zero, List.append_nil, Bool.not_true, Bool.not_false] <;> rfl) ?_
  refine aops_fnIf rfl rfl rfl rfl rfl en26 hB ?_
  refine aops_fnIf rfl rfl rfl rfl rfl en15 rB ?_
  refine aops_run 4 (by simp only [fwA, ↓reduceIte, Nat.reduceAdd, Nat.reduceMul, Nat.reduceEqDiff, Nat.reduceLT, Nat.reduceLeDiff, reduceCtorEq, Tm.fw, ti24, ti9, fl24_1, un22, pl24, un37, decide_true, decide_false, Int.reduceEq, Bool.and_self, PV.bdL_append, List.take_zero, List.append_nil, Bool.not_true, Bool.not_false] <;> rfl) ?_
  refine aops_fnIf rfl rfl rfl rfl rfl en15 (rn.args nle) ?_
  refine aops_run 3 (by simp only [fwA, ↓reduceIte, Nat.reduceAdd, Nat.reduceMul, Nat.reduceEqDiff, Nat.reduceLT, Nat.reduceLeDiff, reduceCtorEq, Tm.fw, ti24, ti9, fl24_1, un22, pl24, un37, decide_true, decide_false, Int.reduceEq, Bool.and_self, PV.bdL_append, List.take_zero, List.append_nil, Bool.not_true, Bool.not_false] <;> rfl) ?_
  refine aops_fnIf rfl rfl rfl rfl rfl en26 h1 ?_
  refine aops_fnIf rfl rfl rfl rfl rfl en26 h2 ?_
  refine aops_fnIf rfl rfl rfl rfl rfl en24 hlt ?_
  refine aops_fnIf rfl rfl rfl rfl rfl en15 rl ?_
  refine aops_run 2 (by simp only [fwA, ↓reduceIte, Nat.reduceAdd, Nat.reduceMul, Nat.reduceEqDiff, Nat.reduceLT, Nat.reduceLeDiff, reduceCtorEq, Tm.fw, ti24, ti9, fl24_1, un22, pl24, un37, decide_true, decide_false, Int.reduceEq, Bool.and_self, PV.bdL_append, List.take_zero, List.append_nil, Bool.not_true, Bool.not_false] <;> rfl) ?_
  refine aops_fnIf rfl rfl rfl rfl rfl en26 h1 ?_
  refine aops_fnIf rfl rfl rfl rfl rfl en26 h2 ?_
  refine aops_fnIf rfl rfl rfl rfl rfl en24 hgt ?_
  refine aops_fnIf rfl rfl rfl rfl rfl en15 rr ?_
  refine aops_run 3 (by simp only [fwA, ↓reduceIte, Nat.reduceAdd, Nat.reduceMul, Nat.reduceEqDiff, Nat.reduceLT, Nat.reduceLeDiff, reduceCtorEq, Tm.fw, ti24, ti9, fl24_1, un22, pl24, un37, decide_true, decide_false, Int.reduceEq, Bool.and_self, PV.bdL_append, List.take_zero, List.append_nil, Bool.not_true, Bool.not_false] <;> rfl) ?_
  refine aops_end ?_
  exact awp_ret (gives_end (.inl rfl) _ rfl)

end Go.Proofs.YtlbmlhpjibgepaaDoor
