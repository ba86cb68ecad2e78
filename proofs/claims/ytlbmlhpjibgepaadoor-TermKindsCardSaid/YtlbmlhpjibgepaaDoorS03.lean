/- The rows' common ground of this chapter: the program's package-level variables, the witness's world. -/
import Derived.Test.YtlbmlhpjibgepaaDoorCards
import Derived.Test.YtlbmlhpjibgepaaDoorTie
import Derived.Test.YtlbmlhpjibgepaaDoorWB
import Derived.Test.YtlbmlhpjibgepaaDoorWC
import Derived.Stop.LaidErr
namespace Go.Proofs.YtlbmlhpjibgepaaDoor
set_option linter.unusedVariables false
set_option linter.unusedSimpArgs false
set_option maxRecDepth 100000
open Go.ChangeShapes Go.WideShapes Go.ChangeAt Go.RowKit Fw

/-- An array of texts that reads as these holds these, cell for cell. -/
theorem cells_of_strs {H : Type} {enc : TypeId × Value → H} {P : Program} {w : World} {base : Nat} {sp : Nat → Bool} {held : Bool} {fuel : Nat} {t e : TypeId} {n : Nat} {cs : List Value} {ss : List (List UInt8)} {p : List MemPlace}
    (ht : P.underlying t = some (.array n e)) (he : P.underlying e = some .string) (hce : P.cellsOf e = 1) (hct : P.cellsOf t = n)
    (h : DataW.trod enc P w base sp held fuel t cs = some (.agg (ss.map fun s => .lit (.string s)), p)) : cs = ss.map fun s => Value.string ⟨s.toArray⟩ := by
  cases fuel with
  | zero => simp [DataW.trod] at h
  | succ fuel =>
    simp only [DataW.trod, ht, hce, hct, Nat.mul_one] at h
    split at h
    · rename_i hl
      obtain ⟨xs, hm, hx⟩ := Option.map_eq_some_iff.1 h
      have hxs : xs.map (·.1) = ss.map fun s => (DataW.lit (.string s) : DataW H) := by
        have := congrArg Prod.fst hx
        simpa using this
      have hxl : xs.length = n := by simpa using Lib.mapM_length hm
      have hzl : ss.length = n := by
        have := congrArg List.length hxs
        simp at this
        omega
      apply List.ext_getElem?
      intro i
      by_cases hi : i < n
      · obtain ⟨b, hb, hf⟩ := Lib.mapM_at hm i i (by simp [hi])
        obtain ⟨z, hc, rfl, _⟩ := DataW.trod_string he hf
        have h1 : cs[i]? = some (.string z) := by
          have := congrArg (·[0]?) hc
          simpa [List.getElem?_take, List.getElem?_drop] using this
        have h2 : (xs.map (·.1))[i]? = some (DataW.lit (.string z.data.toList) : DataW H) := by simp [hb]
        rw [hxs] at h2
        simp only [List.getElem?_map, Option.map_eq_some_iff, DataW.lit.injEq, Lit.string.injEq] at h2
        obtain ⟨z', hz', rfl⟩ := h2
        simp [h1, hz']
      · rw [List.getElem?_eq_none (by omega), List.getElem?_eq_none (by simp; omega)]
    · cases h

/-- From the row's condition: the texts stand first on the list. -/
theorem strsIs_of_head {P : Program} {W : World} {name : String} {ss : List (List UInt8)} {rest : List (String × DataW Unit)} {g : Nat} {t e : TypeId} {n : Nat}
    (hg : P.globalNamed name = some g) (hty : (P.globals[g]?).map (·.type) = some t) (ht : P.underlying t = some (.array n e)) (he : P.underlying e = some .string) (hce : P.cellsOf e = 1) (hct : P.cellsOf t = n)
    (h : laidMet P ((name, .agg (ss.map fun s => .lit (.string s))) :: rest) W) : W.var? P name = some (ss.map fun s => Value.string ⟨s.toArray⟩).toArray := by
  obtain ⟨ps, ⟨g', t', cs, fuel, p, q, hg', ht', hvar, hd, _, _⟩, _⟩ := h
  obtain rfl := Option.some.inj (hg.symm.trans hg')
  obtain rfl := Option.some.inj (hty.symm.trans ht')
  rw [hvar, ← cells_of_strs ht he hce hct hd]

/-- What a variable holds, told. -/
theorem rep_var {P : Program} {W : World} {name : String} {g : Nat} {vs : List Value} {ps : List PV} (hg : P.globalNamed name = some g) (h : W.var? P name = some vs.toArray) (hl : ps.length = vs.length)
    (hr : ∀ (i : Nat) p v, ps[i]? = some p → vs[i]? = some v → Rep (ofW W) 0 p v ∧ v.oneCell' = true) :
    Rep (ofW W) 0 (.cptr ps) (.pointer (some ⟨g, 0, none⟩)) ∧ ∃ C e q, W.heap[g]? = some (.cells C e q) ∧ C.size = ps.length := by
  have hc : ∀ (i : Nat) c, ps[i]? = some c → ∃ v, vs[i]? = some v ∧ W.cell? ⟨g, i, none⟩ = some v := fun i c hc => by
    have hi := (List.getElem?_eq_some_iff.1 hc).1
    refine ⟨vs[i]'(by omega), List.getElem?_eq_getElem (by omega), ?_⟩
    rw [World.var?_cell hg h i]
    simp [show i < vs.length by omega]
  refine ⟨.cptr 0 _ g 0 (fun i => vs.getD i undef) (fun i c hi => ?_) (fun i c hi => ?_) (fun i c hi => ?_), ?_⟩
  · obtain ⟨v, h1, h2⟩ := hc i c hi
    rw [List.getD_eq_getElem?_getD, h1]
    simpa [ofW] using h2
  · obtain ⟨v, h1, h2⟩ := hc i c hi
    rw [List.getD_eq_getElem?_getD, h1]
    exact (hr i c v hi h1).1
  · obtain ⟨v, h1, h2⟩ := hc i c hi
    rw [List.getD_eq_getElem?_getD, h1]
    exact (hr i c v hi h1).2
  · unfold World.var? at h
    rw [hg] at h
    simp only [Option.bind_some] at h
    split at h
    · rename_i C e q hC
      cases h
      exact ⟨_, e, q, hC, by simp [hl]⟩
    · cases h

theorem own : ownKnob Tryd.prog.godebug = none := by kernel_rfl
theorem g0 : Tryd.prog.globalNamed "chancel/term.kids" = some 0 := by kernel_rfl
theorem g1 : Tryd.prog.globalNamed "chancel/term.ops" = some 1 := by kernel_rfl
theorem g2 : Tryd.prog.globalNamed "chancel/lex.keys" = some 2 := by kernel_rfl
theorem y0 : (Tryd.prog.globals[0]?).map (·.type) = some 57 := by kernel_rfl
theorem y1 : (Tryd.prog.globals[1]?).map (·.type) = some 59 := by kernel_rfl
theorem y2 : (Tryd.prog.globals[2]?).map (·.type) = some 63 := by kernel_rfl
theorem cells57 : Tryd.prog.cellsOf 57 = 14 := by kernel_rfl
theorem cells59 : Tryd.prog.cellsOf 59 = 5 := by kernel_rfl
theorem cells63 : Tryd.prog.cellsOf 63 = 14 := by kernel_rfl
theorem cells3 : Tryd.prog.cellsOf 3 = 1 := by kernel_rfl
theorem cells9 : Tryd.prog.cellsOf 9 = 1 := by kernel_rfl

/-- The program's package-level variables: of these three all is known. -/
def Γ0 : Nat → PV := fun g => if g = 0 then .cptr (kidsTab.map fun z => .int .i64 z) else if g = 1 then .cptr (opNs.map .str) else if g = 2 then .cptr (kws.map .str) else .any
theorem tabΓ0 : Tab Γ0 := ⟨rfl, rfl, rfl⟩

theorem sim0 {W : World} (h : laidMetH Tryd.prog Rows.termTellsRow.laid W) : Sim Γ0 W (ofW W) [] W := by
  have h2 : W.var? Tryd.prog "chancel/lex.keys" = some (kws.map fun s => Value.string ⟨s.toArray⟩).toArray := strsIs_of_head (ss := kws) (rest := [("chancel/term.kids", Rows.laid_chancel_term_kids), ("chancel/term.ops", Rows.laid_chancel_term_ops)]) g2 y2 Tryd.underlying63 Tryd.underlying9 cells9 cells63 h
  have h0 : W.var? Tryd.prog "chancel/term.kids" = some (kidsTab.map fun z => Value.int .i64 z).toArray := Lib.tabIs_of_head (zs := kidsTab) (rest := [("chancel/term.ops", Rows.laid_chancel_term_ops)]) g0 y0 Tryd.underlying57 Tryd.underlying3 cells3 cells57 (laidMet.tail h)
  have h1 : W.var? Tryd.prog "chancel/term.ops" = some (opNs.map fun s => Value.string ⟨s.toArray⟩).toArray := strsIs_of_head (ss := opNs) (rest := []) g1 y1 Tryd.underlying59 Tryd.underlying9 cells9 cells59 (laidMet.tail (laidMet.tail h))
  have str : ∀ (ss : List (List UInt8)) (hb : ∀ s ∈ ss, s.length ≤ 9223372036854775807) (i : Nat) p v, (ss.map PV.str)[i]? = some p → (ss.map fun s => Value.string ⟨s.toArray⟩)[i]? = some v → Rep (ofW W) 0 p v ∧ v.oneCell' = true := fun ss hb i p v hp hv => by
    rw [List.getElem?_map] at hp hv
    obtain ⟨s, hs, rfl⟩ := Option.map_eq_some_iff.1 hp
    rw [hs] at hv
    cases hv
    exact ⟨.str _ _ (hb s (List.mem_of_getElem? hs)), rfl⟩
  have r0 := rep_var (ps := kidsTab.map fun z => PV.int .i64 z) g0 h0 (by simp) fun i p v hp hv => by
    rw [List.getElem?_map] at hp hv
    obtain ⟨z, hz, rfl⟩ := Option.map_eq_some_iff.1 hp
    rw [hz] at hv
    cases hv
    exact ⟨.int _ _ _, rfl⟩
  have r1 := rep_var (ps := opNs.map PV.str) g1 h1 (by simp) (str opNs (by decide))
  have r2 := rep_var (ps := kws.map PV.str) g2 h2 (by simp) (str kws (by decide))
  refine sim_ofW (fun g => ?_) fun g cs hg => ?_
  · unfold Γ0
    split
    · rename_i e; subst e; exact r0.1
    · split
      · rename_i e; subst e; exact r1.1
      · split
        · rename_i e; subst e; exact r2.1
        · exact .any _ _
  · unfold Γ0 at hg
    split at hg
    · rename_i e; subst e; cases hg; exact r0.2
    · split at hg
      · rename_i e; subst e; cases hg; exact r1.2
      · split at hg
        · rename_i e; subst e; cases hg; exact r2.2
        · cases hg

/-- A world for the witness: the settled one, the variables as their initialisers lay them. -/
noncomputable def laidWorld (os : Os) : World :=
  let w := World.holding Tryd.prog os ⟨#[], #[], []⟩
  let put (b : Nat) (vs : List Value) (h : Array Obj) : Array Obj := h.modify b fun
      | .cells _ t frozen => .cells vs.toArray t frozen
      | o => o
  { w with heap := put 2 (kws.map fun s => .string ⟨s.toArray⟩) (put 1 (opNs.map fun s => .string ⟨s.toArray⟩) (put 0 (kidsTab.map fun z => .int .i64 z) w.heap)) }

end Go.Proofs.YtlbmlhpjibgepaaDoor
