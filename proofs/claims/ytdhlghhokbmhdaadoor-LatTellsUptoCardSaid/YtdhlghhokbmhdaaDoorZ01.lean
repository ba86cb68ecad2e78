/- The framework, twenty-seventh part: what a contract of the library's lays anew. -/
import Derived.Test.YtdhlghhokbmhdaaDoorWB
import Derived.Maps.Own
import Derived.Sort.EncStr
namespace Go.Proofs.YtdhlghhokbmhdaaDoor.Fw
set_option linter.unusedVariables false
set_option linter.unusedSimpArgs false
set_option maxRecDepth 100000
open Go.RowKit

/-- The world grows, and nothing that lay is turned. -/
theorem Sim.grown {Γ : Nat → PV} {w0 w w' : World} {G : Ghost} {H : List Blk} (h : Sim Γ w0 G H w) (hb : Below w.heap.size w w') : Sim Γ w0 G H w' :=
  h.step (Evol.refl _ _) (fun _ _ => rfl) (h.below.trans ⟨hb.os, hb.tape, hb.output, hb.size, fun k hk => hb.block k (Nat.lt_of_lt_of_le hk h.size)⟩) hb.size (fun k B hB hl => hb.block _ (h.own k B hB hl).2.1)
    (fun a v ha => by
      have := h.mem a v ha
      rw [cell_of_heap (w := w) (hb.block _ (World.block_lt_of_cell? w a this))]; exact this)
    (fun k B hB hl => (h.own k B hB hl).2.2)

/-- A row laid anew is not turned any more. -/
theorem Sim.newOwn {X : Type} {Γ : Nat → PV} {w0 w w' : World} {G : Ghost} {H : List Blk} (h : Sim Γ w0 G H w) (hb : Below w.heap.size w w') {base : Nat} {e : TypeId} {v : Value} {xs : List X} {encV : X → Value} {encP : X → PV}
    (ho : w'.ownsRow base e 1 v xs.length (xs.map encV)) (hbase : w.heap.size ≤ base) (hr : ∀ x ∈ xs, ∀ G, Rep G 0 (encP x) (encV x)) (h1 : ∀ x, (encV x).oneCell' = true) :
    ∃ G', Sim Γ w0 G' H w' ∧ Evol G H.length G' ∧ ∀ n, Rep G' n (.vec (xs.map fun x => [encP x]) false) v := by
  have hs := h.grown hb
  rcases ho.2 with ⟨rfl, h0⟩ | ⟨g, cap, cur, rfl, hg, hheap, hc, hcm, hsz, htk⟩
  · have : xs = [] := List.eq_nil_of_length_eq_zero h0
    subst this
    exact ⟨G, hs, Evol.refl _ _, fun n => .vec0 _ _ _⟩
  · have hM : ∀ o s, G.M ⟨g, o, s⟩ = none := fun o s => h.M_new (by omega) o s
    have hcur : ∀ (i : Nat) x, xs[i]? = some x → cur[i]? = some (encV x) := fun i x hx => by
      have hi := (List.getElem?_eq_some_iff.1 hx).1
      have := congrArg (·[i]?) htk
      simp only [List.getElem?_map, hx, Option.map_some, Nat.mul_one] at this
      rwa [List.getElem?_take_of_lt hi, Array.getElem?_toList] at this
    refine ⟨G.keep g xs.length cur, hs.step (Evol.keep _ hM) (fun _ _ => rfl) hs.below (Nat.le_refl _) (fun _ _ _ _ => rfl) (fun a u ha => ?_) (fun k B hB hl o s => ?_), Evol.keep _ hM, fun n => ?_⟩
    · obtain ⟨b, o, s⟩ := a
      by_cases hbg : b = g
      · subst hbg
        simp only [Ghost.keep] at ha
        split at ha
        · rename_i hcc
          obtain ⟨_, hsp, _⟩ := hcc
          subst hsp
          simp only [World.cell?, hheap]
          simpa using ha
        · rw [hM] at ha; cases ha
      · rw [G.keep_other hbg] at ha
        exact hs.mem _ u ha
    · have := h.own k B hB hl
      rw [G.keep_other (by omega)]; exact this.2.2 o s
    · have hr' : Rep (G.keep g xs.length cur) n (.vec (xs.map fun x => [encP x]) false) (.slice (some ⟨g, 0, none⟩) (xs.map fun x => [encP x]).length cap) := by
        have key : ∀ (i j : Nat) ee c, (xs.map fun x => [encP x])[i]? = some ee → ee[j]? = some c → j = 0 ∧ ∃ x, xs[i]? = some x ∧ c = encP x := fun i j ee c hi hj => by
          rw [List.getElem?_map] at hi
          obtain ⟨x, hx, rfl⟩ := Option.map_eq_some_iff.1 hi
          cases j with
          | zero => simp at hj; exact ⟨rfl, x, hx, hj.symm⟩
          | succ j => simp at hj
        refine .vec n _ false g 0 1 cap (fun i => cur.getD i undef) (by rw [List.length_map]; unfold maxLen at hcm; omega) (by rw [List.length_map]; exact hc) (fun hf => by cases hf) (fun ee he => by
          obtain ⟨x, _, rfl⟩ := List.mem_map.1 he; rfl) (fun i j ee c hi hj => ?_) (fun i j ee c hi hj => ?_) (fun i j ee c hi hj => ?_)
        · obtain ⟨rfl, x, hx, rfl⟩ := key i j ee c hi hj
          have hi' := (List.getElem?_eq_some_iff.1 hx).1
          rw [show 0 + (i * 1 + 0) = i by omega, show i * 1 + 0 = i by omega, G.keep_at hi', Array.getD_eq_getD_getElem?, hcur i x hx]; rfl
        · obtain ⟨rfl, x, hx, rfl⟩ := key i j ee c hi hj
          rw [show i * 1 + 0 = i by omega]
          rw [Array.getD_eq_getD_getElem?, hcur i x hx]
          exact hr x (List.mem_of_getElem? hx) _
        · obtain ⟨rfl, x, hx, rfl⟩ := key i j ee c hi hj
          rw [show i * 1 + 0 = i by omega]
          rw [Array.getD_eq_getD_getElem?, hcur i x hx]
          exact h1 x
      rwa [List.length_map] at hr'

/-- The whole of an array of constant cells, each an element. -/
theorem os_sliceArr {P : Program} {Γ : Nat → PV} {A : List (Nat × PV)} {H : List Blk} {o : Oper} {K : PV → List Blk → Prop} {t : TypeId} {x : Operand} {cs : List PV} {m : Nat} (ho : o.op = .slice t x none none none) (ht : arOf P t = some (m, 1))
    (hx : ev Γ A x = .cptr cs) (hm : cs.length = m) (h0 : 0 < m) (hb : m ≤ 9223372036854775807) (hk : K (.vec (cs.map fun c => [c]) true) H) : OStep P Γ o A H K :=
  ostep_pure (by simp [ho]) _ hk fun w0 G w N a hs ha => by
    obtain ⟨te, i, hu, hinf, hsz⟩ := arOf_spec ht
    have h1 := ha.ev hs.glob x
    rw [hx] at h1
    generalize hax : a.eval x = v at h1
    cases h1 with
    | cptr _ _ b q vs r1 r2 r3 =>
      refine ⟨.slice (some ⟨b, q, none⟩) (cs.map fun c => [c]).length m, ?_, ?_⟩
      · have hbd : (Instr.sliceBounds false m m none none none).run P w = .ok (0, m, m) w := by simp [Instr.sliceBounds]
        have : ¬ (m = 0) := by omega
        simp [execOp, ho, Instr.sliceAt, Instr.sureAddr, run_under hu, hax, hbd, run_size hinf, hsz, hm, Fw.add_at]
      · have key : ∀ (i j : Nat) e c, (cs.map fun c => [c])[i]? = some e → e[j]? = some c → j = 0 ∧ cs[i]? = some c := fun i j e c hi hj => by
          rw [List.getElem?_map] at hi
          obtain ⟨x, hx, rfl⟩ := Option.map_eq_some_iff.1 hi
          cases j with
          | zero => simp at hj; exact ⟨rfl, hj ▸ hx⟩
          | succ j => simp at hj
        refine .vec _ _ true b q 1 m vs (by rw [List.length_map]; omega) (by rw [List.length_map]; omega) (fun _ => by rw [List.length_map]; omega) (fun e he => by
          obtain ⟨x, _, rfl⟩ := List.mem_map.1 he; rfl) (fun i j e c hi hj => ?_) (fun i j e c hi hj => ?_) (fun i j e c hi hj => ?_)
        · obtain ⟨rfl, h⟩ := key i j e c hi hj
          rw [show i * 1 + 0 = i by omega]; exact r1 i c h
        · obtain ⟨rfl, h⟩ := key i j e c hi hj
          rw [show i * 1 + 0 = i by omega]; exact r2 i c h
        · obtain ⟨rfl, h⟩ := key i j e c hi hj
          rw [show i * 1 + 0 = i by omega]; exact r3 i c h

end Go.Proofs.YtdhlghhokbmhdaaDoor.Fw
