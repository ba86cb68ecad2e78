/- The framework, twenty-fourth part: a law's contract out of what its function gives. -/
import Derived.Test.YtinedfjknhahmaaDoorFwW
import Derived.Deep.DeepHandedRow
namespace Go.Proofs.YtinedfjknhahmaaDoor.Fw
set_option linter.unusedVariables false
set_option linter.unusedSimpArgs false
open Go.RowKit Go.ChangeShapes Go.WideShapes

/-- An argument of type t is one of X, told by one. -/
def ReadsArg (P : Program) (W : World) (t : TypeId) {X : Type} (one : X → PV) (good : X → Prop) : Prop :=
  ∀ (Hh : Type) (e : TypeId × Value → Hh) (b : Nat) (v : Value) (d : DataW Hh) (ps : List MemPlace), Value.okWide P W .any b t v → DataW.Trod e P W 0 (fun _ => true) true t v d ps → (d.weights P t).all (· ≤ reachBytes) = true → ∃ x, good x ∧ Rep (ofW W) 0 (one x) v

/-- The arguments are one of X, told by encs. -/
def ReadsArgs (P : Program) (W : World) (ts : List TypeId) {X : Type} (encs : X → List PV) (good : X → Prop) : Prop :=
  ∀ (Hh : Type) (e : TypeId × Value → Hh) (b : Nat) (vs : List Value) (ds : List (DataW Hh)) (ps : List MemPlace), (∀ (j : Nat) t v, ts[j]? = some t → vs[j]? = some v → Value.okWide P W .any b t v) → DataW.TrodAll e P W 0 (fun _ => true) true ts vs ds ps →
    (∀ (i : Nat) t d, ts[i]? = some t → ds[i]? = some d → (d.weights P t).all (· ≤ reachBytes) = true) → ∃ x, good x ∧ Reps (ofW W) 0 (encs x) vs

section
variable {P : Program} {W : World} {t : TypeId} {X Y : Type} {good : X → Prop}

theorem args_nil : ReadsArgs P W [] (fun _ : Unit => []) (fun _ => True) := fun Hh e b vs ds ps _ hT _ => by
  obtain ⟨rfl, rfl, rfl⟩ := trodAll_nil hT
  exact ⟨(), trivial, Reps.nil _ _⟩

theorem args_cons {ts : List TypeId} {one : X → PV} {encs : Y → List PV} {good' : Y → Prop} (h : ReadsArg P W t one good) (hs : ReadsArgs P W ts encs good') :
    ReadsArgs P W (t :: ts) (fun xy : X × Y => one xy.1 :: encs xy.2) (fun xy => good xy.1 ∧ good' xy.2) := fun Hh e b vs ds ps hv hT hw => by
  obtain ⟨v, vs', d, ds', p, q, rfl, rfl, rfl, h1, h2⟩ := trodAll_cons hT
  obtain ⟨x, k1, k2⟩ := h Hh e b v d p (hv 0 t v rfl rfl) h1 (hw 0 t d rfl rfl)
  obtain ⟨y, k3, k4⟩ := hs Hh e b vs' ds' q (fun j t' v' a c => hv (j + 1) t' v' (by simpa using a) (by simpa using c)) h2 (fun i t' d' a c => hw (i + 1) t' d' (by simpa using a) (by simpa using c))
  exact ⟨(x, y), ⟨k1, k3⟩, Reps.cons k2 k4⟩

theorem reads_cell {one : X → PV} (hc : ∀ b v, Value.okWide P W .any b t v → v.cells = #[v]) (h : ∀ n, DecAt P W n t (fun x => [one x]) good) : ReadsArg P W t one good := fun Hh e b v d ps hv hT hw =>
  arg_cell (hc b v hv) hT hw h

theorem reads_int {k : IntKind} (ht : P.underlying t = some (.int k)) : ReadsArg P W t (fun i : Int => .int k i) (fun i => (Lit.int k i).wf = true) :=
  reads_cell (fun b v hv => by
    simp only [Value.okWide, ht, Cell.okWide, Cell.ok] at hv
    cases v <;> first | rfl | exact hv.elim) fun n => dec_int ht
theorem reads_bool (ht : P.underlying t = some .bool) : ReadsArg P W t (fun i : Bool => .bool i) (fun _ => True) :=
  reads_cell (fun b v hv => by
    simp only [Value.okWide, ht, Cell.okWide, Cell.ok] at hv
    cases v <;> first | rfl | exact hv.elim) fun n => dec_bool ht
theorem reads_str (ht : P.underlying t = some .string) : ReadsArg P W t (fun s : List UInt8 => .str s) (fun s => s.length ≤ reachBytes) :=
  reads_cell (fun b v hv => by
    simp only [Value.okWide, ht, Cell.okWide, Cell.ok] at hv
    cases v <;> first | rfl | exact hv.elim) fun n => dec_str ht
theorem reads_slice {e : TypeId} {enc : X → List PV} (ht : P.underlying t = some (.slice e)) (hsz : 0 < P.cellsOf e) (he : ∀ n, DecAt P W n e enc good) : ReadsArg P W t (fun xs : List X => .vec (xs.map enc) false) (fun xs => xs.length * P.bytesOf e ≤ reachBytes ∧ ∀ x ∈ xs, good x) :=
  reads_cell (fun b v hv => by
    simp only [Value.okWide, ht, Cell.okWide, Cell.ok] at hv
    cases v <;> first | rfl | exact hv.elim) fun n => by
      cases n with
      | zero => exact DecAt.zero
      | succ n => exact dec_slice ht hsz (he n)
theorem reads_struct {fs : Array Field} {enc : X → List PV} (ht : P.underlying t = some (.struct fs)) (h : ∀ n, DecAt P W n t enc good) : ReadsArg P W t (fun x => .agg (enc x)) good := fun Hh e b v d ps hv hT hw => by
  obtain ⟨cs, rfl, hs, _⟩ : ∃ cs, v = .agg cs ∧ cs.size = P.cellsOf t ∧ Row.okWide P W .any b t cs := by
    simpa [Value.okWide, ht] using hv
  obtain ⟨fuel, hf⟩ := hT
  obtain ⟨x, h1, h2, h3⟩ := h fuel Hh e _ _ hf hw
  simp only [Value.cells] at h2 h3
  exact ⟨x, h1, .agg _ _ _ (by simpa using h2.1) (fun i c v hc hv => h2.2 i c v hc (by simpa using hv)) fun i v hv => h3 v (List.mem_of_getElem? (by simpa using hv))⟩

theorem int_wf {k : IntKind} {i : Int} (h : (Lit.int k i).wf = true) : k.min ≤ i ∧ i ≤ k.max := by
  simpa [Lit.wf] using h
end

/-- One table of the library's is told, nothing else of the package-level variables. -/
def tabΓ (g0 : Nat) (k : IntKind) (zs : List Int) : Nat → PV := fun g => if g = g0 then .cptr (zs.map fun z => .int k z) else .any

theorem sim_tab {P : Program} {W : World} {name : String} {g0 : Nat} {k : IntKind} {zs : List Int} (hn : P.globalNamed name = some g0) (h : Lib.TabIs P W name k zs) : Sim (tabΓ g0 k zs) W (ofW W) [] W := by
  refine sim_ofW (fun g => ?_) fun g cs hg => ?_
  · unfold tabΓ
    by_cases hg : g = g0
    · subst hg
      rw [if_pos rfl]
      have hc : ∀ (i : Nat) c, (zs.map fun z => PV.int k z)[i]? = some c → ∃ hi : i < zs.length, c = .int k (zs.getD i 0) ∧ W.cell? ⟨g, i, none⟩ = some (.int k (zs.getD i 0)) := fun i c hc => by
        rw [List.getElem?_map] at hc
        obtain ⟨z, hz, rfl⟩ := Option.map_eq_some_iff.1 hc
        have hi := (List.getElem?_eq_some_iff.1 hz).1
        exact ⟨hi, by simp [List.getD, hz], h.cell hn i hi⟩
      refine .cptr 0 _ g 0 (fun i => .int k (zs.getD i 0)) (fun i c hi => ?_) (fun i c hi => ?_) (fun i c hi => rfl)
      · obtain ⟨_, _, h2⟩ := hc i c hi
        simpa [ofW] using h2
      · obtain ⟨_, rfl, _⟩ := hc i c hi
        exact .int _ _ _
    · rw [if_neg hg]; exact .any _ _
  · unfold tabΓ at hg
    by_cases hgg : g = g0
    · subst hgg
      rw [if_pos rfl] at hg
      cases hg
      unfold Lib.TabIs World.var? at h
      rw [hn] at h
      simp only [Option.bind_some] at h
      split at h
      · rename_i C e q hC
        cases h
        exact ⟨_, e, q, hC, by simp⟩
      · cases h
    · rw [if_neg hgg] at hg; cases hg

theorem sim_none {W : World} : Sim (fun _ => .any) W (ofW W) [] W := sim_ofW (fun _ => .any _ _) fun g cs h => by cases h

/-- What a row of a law asks of a call. -/
theorem law_calls {H : Type} {enc : TypeId × Value → H} {P : Program} {Γ : Nat → PV} {f : FuncId} {fn : Func} {s : ChangeSpec} {W : World} {b : Nat} {args : Array Value} {ds gs : List (DataW H)} {before : List MemPlace} {tb : TypeId} {X : Type} {encs : X → List PV} {good : X → Prop}
    (hl : laidOutB P = true) (hr : (fn.params.toList.all fun t => P.readableRec t && decide (t < P.types.size)) = true) (hv : s.vars = []) (hres : fn.resultTypes = #[tb]) (htb : P.underlying tb = some .bool)
    (hs : ∀ ds : List (DataW H), ds.length = fn.params.size → s.fn H ds = { results := [.lit (.bool true)], args := ds })
    (hΓ : Sim Γ W (ofW W) [] W) (ha : ReadsArgs P W fn.params.toList encs good) (hg : ∀ x, good x → Gives P Γ f (encs x) (.bool true))
    (hval : ∀ (j : Nat) t v, fn.params[j]? = some t → args[j]? = some v → Value.okWide P W .any b t v) (hW : DataW.Whole enc P fn.params.toList s.vars false W args.toList ds gs before) {us : List TypeId} {gs' : List (DataW H)}
    (hw : (DataW.weightsEach P (fn.params.toList ++ us) (ds ++ gs')).all (· ≤ reachBytes) = true) :
    Calls P f args W fun e W' => ∃ v, e = .returned v ∧ s.post enc P fn false true false false W args v W' := by
  have hW' := hW
  obtain ⟨p, q, hA0, hV, rfl, hfz, hnd⟩ := hW
  have hA : DataW.TrodAll enc P W 0 (fun _ => true) true fn.params.toList args.toList ds p := hA0
  obtain ⟨x, hgx, hx⟩ := ha H enc b args.toList ds p (fun j t v a c => hval j t v (by simpa using a) (by simpa using c)) hA fun i t d h1 h2 =>
    weightsEach_at (i := i) hw (by rw [List.getElem?_append_left (List.getElem?_eq_some_iff.1 h1).1]; exact h1) (by rw [List.getElem?_append_left (List.getElem?_eq_some_iff.1 h2).1]; exact h2)
  refine (callsIn_wide.1 (hg x hgx [] W (ofW W) W args hΓ hx)).mono fun e W' hq => ?_
  obtain ⟨v, p', H', G', rfl, h1, h2, h3, h4, rfl, rfl⟩ := hq
  have hb : v = .bool true := by cases h2; rfl
  subst hb
  exact ⟨_, rfl, law_post hl hr hv hres htb hs hW' h1.below⟩

end Go.Proofs.YtinedfjknhahmaaDoor.Fw
