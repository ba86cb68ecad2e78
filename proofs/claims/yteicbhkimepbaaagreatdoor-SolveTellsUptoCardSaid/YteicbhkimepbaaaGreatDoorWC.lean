/- The framework: reading the arguments where what is read is of a bulk that is told. -/
import Derived.Test.YteicbhkimepbaaaGreatDoorWB
import Derived.Lib.TrailingZeros
import Derived.Test.YteicbhkimepbaaaGreatDoorWA
import Derived.Test.YteicbhkimepbaaaGreatDoorProg
namespace Go.Proofs.YteicbhkimepbaaaGreatDoor.Fw
set_option linter.unusedVariables false
set_option linter.unusedSimpArgs false
set_option maxRecDepth 100000
open Go.RowKit Go.ChangeShapes Go.WideShapes
mutual
def bulk {H : Type} : DataW H → Nat
  | .lit (.string bytes) => bytes.length + 1
  | .lit _ => 1
  | .nil => 1
  | .ptr d => bulk d + 1
  | .slice elems spare => bulkAll elems + bulkAll spare + 1
  | .agg parts => bulkAll parts + 1
  | .iface _ d => bulk d + 1
  | .map entries => bulkEntries entries + 1
  | .held _ => 1
def bulkAll {H : Type} : List (DataW H) → Nat
  | [] => 0
  | d :: r => bulk d + bulkAll r
def bulkEntries {H : Type} : List (Lit × DataW H) → Nat
  | [] => 0
  | x :: r => bulkEntry x + bulkEntries r
def bulkEntry {H : Type} : Lit × DataW H → Nat
  | (.string bytes, d) => bytes.length + bulk d + 1
  | (_, d) => bulk d + 1
end
theorem bulkAll_append {H : Type} : ∀ a b : List (DataW H), bulkAll (a ++ b) = bulkAll a + bulkAll b
  | [], b => by simp [bulkAll]
  | d :: a, b => by simp only [List.cons_append, bulkAll, bulkAll_append a b]; omega
def DecB (P : Program) (W : World) (fuel : Nat) (t : TypeId) {X : Type} (enc : X → List PV) (good : X → Prop) (w : X → Nat) : Prop :=
  ∀ (Hh : Type) (e : TypeId × Value → Hh) (cs : List Value) (y : DataW Hh × List MemPlace), DataW.trod e P W 0 (fun _ => true) true fuel t cs = some y → (y.1.weights P t).all (· ≤ reachBytes) = true → ∃ x, good x ∧ w x ≤ bulk y.1 ∧ Reps (ofW W) 0 (enc x) cs ∧ ∀ u ∈ cs, u.oneCell' = true
section
variable {P : Program} {W : World} {n : Nat} {t : TypeId} {X Y : Type} {enc : X → List PV} {good : X → Prop} {w : X → Nat}
theorem DecB.zero : DecB P W 0 t enc good w := fun Hh e cs y h _ => by simp [DataW.trod] at h
theorem DecB.weaken {good' : X → Prop} {w' : X → Nat} (h : DecB P W n t enc good w) (hg : ∀ x, good x → good' x) (hw : ∀ x, w' x ≤ w x) : DecB P W n t enc good' w' := fun Hh e cs y hy hwt =>
  let ⟨x, h1, h0, h2, h3⟩ := h Hh e cs y hy hwt; ⟨x, hg x h1, Nat.le_trans (hw x) h0, h2, h3⟩
theorem DecB.map {enc' : Y → List PV} {good' : Y → Prop} {w' : Y → Nat} (h : DecB P W n t enc good w) (g : X → Y) (he : ∀ x, enc' (g x) = enc x) (hg : ∀ x, good x → good' (g x)) (hw : ∀ x, w' (g x) ≤ w x) : DecB P W n t enc' good' w' := fun Hh e cs y hy hwt =>
  let ⟨x, h1, h0, h2, h3⟩ := h Hh e cs y hy hwt; ⟨g x, hg x h1, Nat.le_trans (hw x) h0, by rw [he]; exact h2, h3⟩
theorem decB_int {k : IntKind} (ht : P.underlying t = some (.int k)) : DecB P W n t (fun i : Int => [.int k i]) (fun i => (Lit.int k i).wf = true) (fun _ => 1) := fun Hh e cs y h _ => by
  obtain ⟨b, rfl, rfl, hw⟩ := DataW.trod_int ht h
  exact ⟨b, hw, by simp [bulk], reps_one (.int _ _ _), fun u hu => by simp at hu; subst hu; rfl⟩
theorem decB_str (ht : P.underlying t = some .string) : DecB P W n t (fun s : List UInt8 => [.str s]) (fun s => s.length ≤ reachBytes) (fun s => s.length + 1) := fun Hh e cs y h hwt => by
  obtain ⟨s, rfl, rfl, hw⟩ := DataW.trod_string ht h
  refine ⟨s.data.toList, by simpa [DataW.weights] using hwt, by simp [bulk], ?_, fun u hu => by simp at hu; subst hu; rfl⟩
  have hs : Rep (ofW W) 0 (.str s.data.toList) (.string ⟨s.data.toList.toArray⟩) := .str _ _ (by rw [Array.length_toList]; exact hw)
  exact reps_one (by simpa using hs)
theorem sum_bulk {Hh : Type} : ∀ (xs : List X) (ds : List (DataW Hh)), xs.length = ds.length → (∀ (i : Nat) x d, xs[i]? = some x → ds[i]? = some d → w x ≤ bulk d) → (xs.map w).sum ≤ bulkAll ds
  | [], [], _, _ => Nat.le_refl _
  | x :: xs, d :: ds, hl, h => by
    have h1 := h 0 x d rfl rfl
    have h2 := sum_bulk xs ds (by simpa using hl) fun i x d a b => h (i + 1) x d (by simpa using a) (by simpa using b)
    simp only [List.map_cons, List.sum_cons, bulkAll]; omega
  | [], _ :: _, h, _ => by simp at h
  | _ :: _, [], h, _ => by simp at h
theorem decB_slice {e : TypeId} (ht : P.underlying t = some (.slice e)) (hsz : 0 < P.cellsOf e) (he : DecB P W n e enc good w) :
    DecB P W (n + 1) t (fun xs : List X => [.vec (xs.map enc) false]) (fun xs => xs.length * P.bytesOf e ≤ reachBytes ∧ ∀ x ∈ xs, good x) (fun xs => (xs.map w).sum + 1) := fun Hh en cs y h hwt => by
  rcases DataW.trod_slice ht h with ⟨rfl, rfl⟩ | ⟨a, len, cap, elems, rest, k, hk, rfl, rfl, hb, hl, hc, hlen, hel, hsp, hns⟩
  · exact ⟨[], ⟨by simp, fun x h => by cases h⟩, by simp [bulk], reps_one (.vec0 _ _ _), fun u hu => by simp at hu; subst hu; rfl⟩
  · obtain rfl : k = n := by omega
    simp only [DataW.weights, ht, List.all_cons, List.all_append, Bool.and_eq_true, decide_eq_true_eq, List.length_map] at hwt
    obtain ⟨hw1, hw2, _⟩ := hwt
    have hget : ∀ i, i < len → ∃ x, (good x ∧ ∀ d, elems[i]? = some d → w x ≤ bulk d.1) ∧ ∃ ci, W.cells? 0 (a.add (i * P.cellsOf e)) (P.cellsOf e) = some ci ∧ Reps (ofW W) 0 (enc x) ci ∧ ∀ u ∈ ci, u.oneCell' = true := fun i hi => by
      have h1 := hel i hi
      rw [List.getElem?_eq_getElem (by omega)] at h1
      obtain ⟨ci, h2, h3⟩ := Option.bind_eq_some_iff.1 h1
      obtain ⟨x, h4, hwx, h5, h6⟩ := he Hh en ci _ h3 (weightsAll_at (i := i) hw2 (by rw [List.getElem?_map, List.getElem?_eq_getElem (by omega)]; rfl))
      exact ⟨x, ⟨h4, fun d hd => by rw [List.getElem?_eq_getElem (by omega)] at hd; cases hd; exact hwx⟩, ci, h2, h5, h6⟩
    obtain ⟨xs, h1, h2⟩ := pick_list len hget
    refine ⟨xs, ⟨by rw [h1, ← hlen]; exact Nat.le_trans (Nat.mul_le_mul_right _ (Nat.le_add_right _ _)) hw1, fun x hx => ?_⟩, ?_, reps_one ?_, fun u hu => by simp at hu; subst hu; rfl⟩
    · obtain ⟨i, hi⟩ := List.mem_iff_getElem?.1 hx
      exact (h2 i x hi).1.1
    · have := sum_bulk (w := w) xs (elems.map (·.1)) (by rw [List.length_map, h1, hlen]) fun i x d hx hd => by
        rw [List.getElem?_map] at hd
        obtain ⟨d', hd', rfl⟩ := Option.map_eq_some_iff.1 hd
        exact (h2 i x hx).1.2 d' hd'
      simp only [bulk]; omega
    · by_cases hcap : cap = 0
      · have h0 : len = 0 := by omega
        subst h0 hcap
        have : xs = [] := List.eq_nil_of_length_eq_zero h1
        subst this
        exact .vec0 _ _ _
      · have hspot : a.spot = none := by
          by_cases h0 : 0 < len
          · obtain ⟨x, _, ci, hci, _⟩ := hget 0 h0
            obtain ⟨hcl, hcc⟩ := cells_spec hci
            have := hcc 0 hsz
            rw [List.getElem?_eq_getElem (by omega)] at this
            have := cell_spot this
            simpa [Addr.add] using this
          · have h00 : len = 0 := by omega
            subst h00
            have h1 := (hsp rfl).2 0 (by omega)
            have h1l := (hsp rfl).1
            rw [List.getElem?_eq_getElem (by omega)] at h1
            obtain ⟨ci, h2, h3⟩ := Option.bind_eq_some_iff.1 h1
            obtain ⟨hcl, hcc⟩ := cells_spec h2
            have := hcc 0 hsz
            rw [List.getElem?_eq_getElem (by omega)] at this
            have := cell_spot this
            simpa [Addr.add] using this
        obtain ⟨ab, ao, asp⟩ := a
        simp only at hspot
        subst hspot
        have key : ∀ (i j : Nat) el c, (xs.map enc)[i]? = some el → el[j]? = some c → j < P.cellsOf e ∧ ∃ u, W.cell? ⟨ab, ao + (i * P.cellsOf e + j), none⟩ = some u ∧ Rep (ofW W) 0 c u ∧ u.oneCell' = true := fun i j el c hi hj => by
          rw [List.getElem?_map] at hi
          obtain ⟨x, hx, rfl⟩ := Option.map_eq_some_iff.1 hi
          obtain ⟨_, ci, h3, h4, h5⟩ := h2 i x hx
          obtain ⟨hcl, hcc⟩ := cells_spec h3
          have hj' : j < ci.length := by rw [← h4.1]; exact (List.getElem?_eq_some_iff.1 hj).1
          have h6 := hcc j (by omega)
          rw [List.getElem?_eq_getElem hj'] at h6
          refine ⟨by omega, ci[j], ?_, h4.2 j c _ hj (List.getElem?_eq_getElem hj'), h5 _ (List.getElem_mem hj')⟩
          rw [← h6, Fw.add_at, Fw.add_at, Nat.add_assoc]
        have hvs : ∀ (i j : Nat) el c, (xs.map enc)[i]? = some el → el[j]? = some c → W.cell? ⟨ab, ao + (i * P.cellsOf e + j), none⟩ = some ((W.cell? ⟨ab, ao + (i * P.cellsOf e + j), none⟩).getD undef) := fun i j el c hi hj => by
          obtain ⟨_, u, h3, _⟩ := key i j el c hi hj
          rw [h3]; rfl
        have := Rep.vec (G := ofW W) 0 (xs.map enc) false ab ao (P.cellsOf e) cap (fun k => (W.cell? ⟨ab, ao + k, none⟩).getD undef) (by simp; unfold maxLen at hc; omega) (by simp; omega) (fun hf => by cases hf) (fun el hel => by
            obtain ⟨x, hx, rfl⟩ := List.mem_map.1 hel
            obtain ⟨i, hi⟩ := List.mem_iff_getElem?.1 hx
            obtain ⟨_, ci, h3, h4, _⟩ := h2 i x hi
            rw [h4.1]; exact (cells_spec h3).1) hvs (fun i j el c hi hj => by
            obtain ⟨_, u, h3, h4, _⟩ := key i j el c hi hj
            simp only [h3]; exact h4) (fun i j el c hi hj => by
            obtain ⟨_, u, h3, _, h5⟩ := key i j el c hi hj
            simp only [h3]; exact h5)
        rw [List.length_map, h1] at this
        exact this
def DecFB (P : Program) (W : World) (n : Nat) (fs : List Field) (off : Nat) {X : Type} (enc : X → List PV) (good : X → Prop) (w : X → Nat) : Prop :=
  ∀ (Hh : Type) (e : TypeId × Value → Hh) (cs : List Value) (ds : List (DataW Hh)), ds.length = fs.length → (∀ (i : Nat) f, fs[i]? = some f → ∃ y, ds[i]? = some y.1 ∧ DataW.trod e P W 0 (fun _ => true) true n f.type ((cs.drop f.offset).take (P.cellsOf f.type)) = some y ∧ (y.1.weights P f.type).all (· ≤ reachBytes) = true) → cs.length = off + (fs.map fun f => P.cellsOf f.type).sum →
    ∃ x, good x ∧ w x ≤ bulkAll ds ∧ Reps (ofW W) 0 (enc x) (cs.drop off) ∧ ∀ u ∈ cs.drop off, u.oneCell' = true
theorem decFB_last {f : Field} {off : Nat} (ho : f.offset = off) (h : DecB P W n f.type enc good w) : DecFB P W n [f] off enc good w := fun Hh e cs ds hd hf hl => by
  obtain ⟨y, hy0, hy, hw⟩ := hf 0 f rfl
  obtain ⟨x, h1, h0, h2, h3⟩ := h Hh e _ _ hy hw
  simp at hl
  have : (cs.drop f.offset).take (P.cellsOf f.type) = cs.drop off := by rw [ho, List.take_of_length_le (by simp; omega)]
  rw [this] at h2 h3
  refine ⟨x, h1, ?_, h2, h3⟩
  cases ds with
  | nil => simp at hy0
  | cons d ds => simp only [List.getElem?_cons_zero, Option.some.injEq] at hy0; subst hy0; simp only [bulkAll]; omega
theorem decFB_cons {f : Field} {fs : List Field} {off off' : Nat} {enc' : Y → List PV} {good' : Y → Prop} {w' : Y → Nat} (ho : f.offset = off) (ho' : off + P.cellsOf f.type = off') (h : DecB P W n f.type enc good w) (hs : DecFB P W n fs off' enc' good' w') :
    DecFB P W n (f :: fs) off (fun xy : X × Y => enc xy.1 ++ enc' xy.2) (fun xy => good xy.1 ∧ good' xy.2) (fun xy => w xy.1 + w' xy.2) := fun Hh e cs ds hd hf hl => by
  cases ds with
  | nil => simp at hd
  | cons d ds =>
  obtain ⟨y, hy0, hy, hw⟩ := hf 0 f rfl
  simp only [List.getElem?_cons_zero, Option.some.injEq] at hy0
  subst hy0
  obtain ⟨x, h1, h0, h2, h3⟩ := h Hh e _ _ hy hw
  obtain ⟨x', k1, k0, k2, k3⟩ := hs Hh e cs ds (by simpa using hd) (fun i g hg => by
    obtain ⟨y', a, b⟩ := hf (i + 1) g (by simpa using hg)
    exact ⟨y', by simpa using a, b⟩) (by simp at hl; omega)
  have hsplit : cs.drop off = (cs.drop off).take (P.cellsOf f.type) ++ cs.drop off' := by
    rw [← ho', ← List.drop_drop, List.take_append_drop]
  rw [ho] at h2 h3
  refine ⟨(x, x'), ⟨h1, k1⟩, by simp only [bulkAll]; omega, by rw [hsplit]; exact Reps.append h2 k2, fun u hu => ?_⟩
  rw [hsplit] at hu
  rcases List.mem_append.1 hu with hu | hu
  · exact h3 u hu
  · exact k3 u hu
theorem decB_struct {fs : Array Field} (ht : P.underlying t = some (.struct fs)) (hs : (fs.toList.map fun f => P.cellsOf f.type).sum = P.cellsOf t) (h : DecFB P W n fs.toList 0 enc good w) : DecB P W (n + 1) t enc good (fun x => w x + 1) := fun Hh e cs y hy hw => by
  obtain ⟨xs, k, hk, rfl, hl, hlen, hf⟩ := DataW.trod_struct ht hy
  simp only [DataW.weights, ht] at hw
  obtain rfl : k = n := by omega
  obtain ⟨x, h1, h0, h2, h3⟩ := h Hh e cs (xs.map (·.1)) (by simp [hlen]) (fun i f hi => by
    have h1 := hf i f (by simpa using hi)
    have hi' : i < xs.length := by rw [hlen]; simpa using (List.getElem?_eq_some_iff.1 hi).1
    exact ⟨xs[i], by rw [List.getElem?_map, List.getElem?_eq_getElem hi']; rfl, by rw [h1, List.getElem?_eq_getElem hi'], weightsEach_at (i := i) hw (by rw [List.getElem?_map, hi]; rfl) (by rw [List.getElem?_map, List.getElem?_eq_getElem hi']; rfl)⟩) (by rw [hs, hl]; simp)
  exact ⟨x, h1, by simp only [bulk]; omega, by simpa using h2, by simpa using h3⟩
def ReadsArgB (P : Program) (W : World) (t : TypeId) {X : Type} (one : X → PV) (good : X → Prop) (w : X → Nat) : Prop :=
  ∀ (Hh : Type) (e : TypeId × Value → Hh) (b : Nat) (v : Value) (d : DataW Hh) (ps : List MemPlace), Value.okWide P W .any b t v → DataW.Trod e P W 0 (fun _ => true) true t v d ps → (d.weights P t).all (· ≤ reachBytes) = true → ∃ x, good x ∧ w x ≤ bulk d ∧ Rep (ofW W) 0 (one x) v
def ReadsArgsB (P : Program) (W : World) (ts : List TypeId) {X : Type} (encs : X → List PV) (good : X → Prop) (w : X → Nat) : Prop :=
  ∀ (Hh : Type) (e : TypeId × Value → Hh) (b : Nat) (vs : List Value) (ds : List (DataW Hh)) (ps : List MemPlace), (∀ (j : Nat) t v, ts[j]? = some t → vs[j]? = some v → Value.okWide P W .any b t v) → DataW.TrodAll e P W 0 (fun _ => true) true ts vs ds ps →
    (∀ (i : Nat) t d, ts[i]? = some t → ds[i]? = some d → (d.weights P t).all (· ≤ reachBytes) = true) → ∃ x, good x ∧ w x ≤ bulkAll ds ∧ Reps (ofW W) 0 (encs x) vs
theorem argsB_nil : ReadsArgsB P W [] (fun _ : Unit => []) (fun _ => True) (fun _ => 0) := fun Hh e b vs ds ps _ hT _ => by
  obtain ⟨rfl, rfl, rfl⟩ := trodAll_nil hT
  exact ⟨(), trivial, Nat.zero_le _, Reps.nil _ _⟩
theorem argsB_cons {ts : List TypeId} {one : X → PV} {encs : Y → List PV} {good' : Y → Prop} {w' : Y → Nat} (h : ReadsArgB P W t one good w) (hs : ReadsArgsB P W ts encs good' w') :
    ReadsArgsB P W (t :: ts) (fun xy : X × Y => one xy.1 :: encs xy.2) (fun xy => good xy.1 ∧ good' xy.2) (fun xy => w xy.1 + w' xy.2) := fun Hh e b vs ds ps hv hT hw => by
  obtain ⟨v, vs', d, ds', p, q, rfl, rfl, rfl, h1, h2⟩ := trodAll_cons hT
  obtain ⟨x, k1, k0, k2⟩ := h Hh e b v d p (hv 0 t v rfl rfl) h1 (hw 0 t d rfl rfl)
  obtain ⟨y, k3, k00, k4⟩ := hs Hh e b vs' ds' q (fun j t' v' a c => hv (j + 1) t' v' (by simpa using a) (by simpa using c)) h2 (fun i t' d' a c => hw (i + 1) t' d' (by simpa using a) (by simpa using c))
  exact ⟨(x, y), ⟨k1, k3⟩, by simp only [bulkAll]; omega, Reps.cons k2 k4⟩
theorem readsB_cell {one : X → PV} (hc : ∀ b v, Value.okWide P W .any b t v → v.cells = #[v]) (h : ∀ n, DecB P W n t (fun x => [one x]) good w) : ReadsArgB P W t one good w := fun Hh e b v d ps hv hT hw => by
  obtain ⟨fuel, hf⟩ := hT
  obtain ⟨x, h1, h0, h2, h3⟩ := h fuel Hh e _ _ hf hw
  rw [hc b v hv] at h2
  exact ⟨x, h1, h0, h2.2 0 _ v rfl rfl⟩
theorem readsB_int {k : IntKind} (ht : P.underlying t = some (.int k)) : ReadsArgB P W t (fun i : Int => .int k i) (fun i => (Lit.int k i).wf = true) (fun _ => 1) :=
  readsB_cell (fun b v hv => by
    simp only [Value.okWide, ht, Cell.okWide, Cell.ok] at hv
    cases v <;> first | rfl | exact hv.elim) fun n => decB_int ht
theorem readsB_slice {e : TypeId} {enc : X → List PV} (ht : P.underlying t = some (.slice e)) (hsz : 0 < P.cellsOf e) (he : ∀ n, DecB P W n e enc good w) : ReadsArgB P W t (fun xs : List X => .vec (xs.map enc) false) (fun xs => xs.length * P.bytesOf e ≤ reachBytes ∧ ∀ x ∈ xs, good x) (fun xs => (xs.map w).sum + 1) :=
  readsB_cell (fun b v hv => by
    simp only [Value.okWide, ht, Cell.okWide, Cell.ok] at hv
    cases v <;> first | rfl | exact hv.elim) fun n => by
      cases n with
      | zero => exact DecB.zero
      | succ n => exact decB_slice ht hsz (he n)
theorem readsB_struct {fs : Array Field} {enc : X → List PV} (ht : P.underlying t = some (.struct fs)) (h : ∀ n, DecB P W n t enc good w) : ReadsArgB P W t (fun x => .agg (enc x)) good w := fun Hh e b v d ps hv hT hw => by
  obtain ⟨cs, rfl, hs, _⟩ : ∃ cs, v = .agg cs ∧ cs.size = P.cellsOf t ∧ Row.okWide P W .any b t cs := by
    simpa [Value.okWide, ht] using hv
  obtain ⟨fuel, hf⟩ := hT
  obtain ⟨x, h1, h0, h2, h3⟩ := h fuel Hh e _ _ hf hw
  simp only [Value.cells] at h2 h3
  exact ⟨x, h1, h0, .agg _ _ _ (by simpa using h2.1) (fun i c v hc hv => h2.2 i c v hc (by simpa using hv)) fun i v hv => h3 v (List.mem_of_getElem? (by simpa using hv))⟩
end
theorem law_callsB {H : Type} {enc : TypeId × Value → H} {P : Program} {Γ : Nat → PV} {f : FuncId} {fn : Func} {s : ChangeSpec} {W : World} {b : Nat} {args : Array Value} {ds gs : List (DataW H)} {before : List MemPlace} {tb : TypeId} {X : Type} {encs : X → List PV} {good : X → Prop} {wt : X → Nat} {k : Nat}
    (hl : laidOutB P = true) (hr : (fn.params.toList.all fun t => P.readableRec t && decide (t < P.types.size)) = true) (hv : s.vars = []) (hres : fn.resultTypes = #[tb]) (htb : P.underlying tb = some .bool)
    (hs : ∀ ds : List (DataW H), ds.length = fn.params.size → s.fn H ds = { results := [.lit (.bool true)], args := ds })
    (hΓ : Sim Γ W (ofW W) [] W) (ha : ReadsArgsB P W fn.params.toList encs good wt) (hg : ∀ x, good x → wt x ≤ k → Gives P Γ f (encs x) (.bool true)) (hk : bulkAll ds ≤ k)
    (hval : ∀ (j : Nat) t v, fn.params[j]? = some t → args[j]? = some v → Value.okWide P W .any b t v) (hW : DataW.Whole enc P fn.params.toList s.vars false W args.toList ds gs before) {us : List TypeId} {gs' : List (DataW H)}
    (hw : (DataW.weightsEach P (fn.params.toList ++ us) (ds ++ gs')).all (· ≤ reachBytes) = true) :
    Calls P f args W fun e W' => ∃ v, e = .returned v ∧ s.post enc P fn false true false false W args v W' := by
  have hW' := hW
  obtain ⟨p, q, hA0, hV, rfl, hfz, hnd⟩ := hW
  have hA : DataW.TrodAll enc P W 0 (fun _ => true) true fn.params.toList args.toList ds p := hA0
  obtain ⟨x, hgx, hwx, hx⟩ := ha H enc b args.toList ds p (fun j t v a c => hval j t v (by simpa using a) (by simpa using c)) hA fun i t d h1 h2 =>
    weightsEach_at (i := i) hw (by rw [List.getElem?_append_left (List.getElem?_eq_some_iff.1 h1).1]; exact h1) (by rw [List.getElem?_append_left (List.getElem?_eq_some_iff.1 h2).1]; exact h2)
  refine (callsIn_wide.1 (hg x hgx (Nat.le_trans hwx hk) [] W (ofW W) W args hΓ hx)).mono fun e W' hq => ?_
  obtain ⟨v, p', H', G', rfl, h1, h2, h3, h4, rfl, rfl⟩ := hq
  have hb : v = .bool true := by cases h2; rfl
  subst hb
  exact ⟨_, rfl, law_post hl hr hv hres htb hs hW' h1.below.plain⟩
theorem awp_heap {P : Program} {Γ : Nat → PV} {N : Nat} {ro : Option Nat} {c : Code} {A : List (Nat × PV)} {H H' : List Blk} {D : List Nat} {Q : Post} (hH : H = H') (h : AWP P Γ N ro c A H' D Q) : AWP P Γ N ro c A H D Q := hH ▸ h
theorem os_max {P : Program} {Γ : Nat → PV} {A : List (Nat × PV)} {H : List Blk} {o : Oper} {K : PV → List Blk → Prop} {x y : Operand} {ts : Array TypeId} {k : IntKind} {m n : Int} (ho : o.op = .call { callee := .builtin .max, args := #[x, y], argTypes := ts }) (hx : ev Γ A x = .int k m) (hy : ev Γ A y = .int k n)
    (hk : K (.int k (if m < n then n else m)) H) : OStep P Γ o A H K :=
  ostep_pure (by simp [ho]) _ hk fun w0 G w N a hs ha => by
    have h1 := ha.ev hs.glob x
    have h2 := ha.ev hs.glob y
    rw [hx] at h1
    rw [hy] at h2
    refine ⟨_, ?_, .int _ _ _⟩
    simp [execOp, ho, resolve, invoke, builtin, Builtin.max_, Builtin.max2, h1.int_inv, h2.int_inv]
end Go.Proofs.YteicbhkimepbaaaGreatDoor.Fw
namespace Go.Proofs.YteicbhkimepbaaaGreatDoor.Fw
set_option linter.unusedVariables false
set_option linter.unusedSimpArgs false
set_option maxRecDepth 100000
open Go.RowKit
variable {P : Program} {Γ : Nat → PV} {N : Nat} {ro : Option Nat} {A : List (Nat × PV)} {H : List Blk} {D : List Nat} {Q : Post}
theorem awp_join {S : Type} (keep : List Nat) (st : S → List PV) (Hs : S → List Blk) (ok : S → Prop) {x y : Code}
    (h1 : AWP P Γ N ro x A H D (Post.then (fun A' H' D' => ∃ s, ok s ∧ keep.map (alook A') = st s ∧ H' = Hs s ∧ D' = D) Q))
    (h2 : ∀ s, ok s → AWP P Γ N ro y (keep.zip (st s)) (Hs s) D Q) : AWP P Γ N ro (.seq x y) A H D Q := by
  refine awp_seq (h1.mono fun e A' H' D' hq => ?_)
  cases e with
  | normal =>
    obtain ⟨s, k1, k2, rfl, rfl⟩ := hq
    exact awp_less (fun t => zip_look keep _ t A' k2) (h2 s k1)
  | _ => exact hq
theorem aops_end {ops : Array Oper} {K : List (Nat × PV) → List Blk → Prop} (h : K A H) : AOps P Γ ops K [] A H := h
theorem bitfw : (∀ (k : IntKind) (a b : Int), abin .and (.int k a) (.int k b) = some (.int k (k.wrap (BitVec.ofInt k.bits a &&& BitVec.ofInt k.bits b).toNat))) ∧
    (∀ (k : IntKind) (a b : Int), abin .or (.int k a) (.int k b) = some (.int k (k.wrap (BitVec.ofInt k.bits a ||| BitVec.ofInt k.bits b).toNat))) ∧
    (∀ (k : IntKind) (a b : Int), abin .andNot (.int k a) (.int k b) = some (.int k (k.wrap (BitVec.ofInt k.bits a &&& ~~~BitVec.ofInt k.bits b).toNat))) ∧
    (∀ (k k' : IntKind) (a b : Int), abin .shl (.int k a) (.int k' b) = if 0 ≤ b then some (.int k (k.wrap (a * 2 ^ (min b.toNat k.bits)))) else none) ∧
    (∀ (k k' : IntKind) (a b : Int), abin .shr (.int k a) (.int k' b) = if 0 ≤ b then some (.int k (a.fdiv (2 ^ (min b.toNat k.bits)))) else none) := by
  refine ⟨?_, ?_, ?_, ?_, ?_⟩ <;> intros <;> simp [abin]
end Go.Proofs.YteicbhkimepbaaaGreatDoor.Fw
namespace Go.Proofs.YteicbhkimepbaaaGreatDoor.Fw
set_option linter.unusedVariables false
set_option linter.unusedSimpArgs false
set_option maxRecDepth 100000
open Go.RowKit
def AIterM (P : Program) (Γ : Nat → PV) (gf : FuncId) (caps : List PV) (b : Nat) (B0 : Blk) (np : Nat) (xs : List (List PV)) : Prop :=
  ∀ (l n0 : Nat) (Inv : Nat → List Blk → Prop) (Stop : List Blk → Prop),
    (∀ i Hb, Inv i Hb → Hb.length = n0 ∧ (∀ cs, PV.plainL cs = true → Inv i (Hb.set b (.box cs))) ∧ ∃ rec cs, Hb[l]? = some (.loop rec cs) ∧ b ≠ l ∧ rec.params.size = np ∧
      ∀ x E, xs[i]? = some x → ARound P Γ l rec x (Hb ++ E) (fun bb H' => ∃ Hb', H' = Hb' ++ E ∧ Hb'[b]? = Hb[b]? ∧ if bb = true then Inv (i + 1) Hb' else (Hb'.length = n0 ∧ Stop Hb'))) →
    ∀ Hb, Inv 0 Hb → Hb[b]? = some B0 → ACalls P Γ gf (.yld l :: caps) Hb (fun _ H' => Inv xs.length H' ∨ (H'.length = n0 ∧ Stop H'))
section
variable {P : Program} {Γ : Nat → PV} {N : Nat} {ro : Option Nat} {A : List (Nat × PV)} {H : List Blk} {D : List Nat} {Q : Post} {o : Oper} {K : PV → List Blk → Prop}
theorem awp_rangeFuncM {g : Operand} {ps : Array Tmp} {assign body : Code} {gf : FuncId} {caps : List PV} {b : Nat} {B0 : Blk} {xs : List (List PV)}
    (hg : ev Γ A g = .func (.func gf) [] caps) (he : Enters P gf) (hit : AIterM P Γ gf caps b B0 ps.size xs) (hb : H[b]? = some B0) (hps : ps.all (fun t => decide (t < N)) = true)
    (J : Nat → List Blk → Prop) (X : Code → List Blk → Prop) (h0 : J 0 H) (hJ : ∀ i H', J i H' → H'.length = H.length ∧ ∀ cs, PV.plainL cs = true → J i (H'.set b (.box cs)))
    (hround : ∀ i x H' L L' ro, xs[i]? = some x → J i H' → 2 ≤ L.length → L'.length = L.length → (∀ B ∈ H' ++ L, B.bd (H' ++ L).length = true) → (∀ B ∈ L', B.bd (H' ++ L).length = true) →
      AWP P Γ N ro assign (yieldA ps.toList x (initA 0 (dense N A))) (H' ++ L) [] (Post.then (fun A1 H1 D1 => D1 = [] ∧ ∃ Ha M, Ha.length = H.length ∧ H1 = Ha ++ L ++ M ∧
        AWP P Γ N ro body A1 (Ha ++ L' ++ M) [] (fun e _ H2 _ => ∃ Hb M', Hb.length = H.length ∧ H2 = Hb ++ L' ++ M' ∧ (∀ B ∈ Hb, B.bd (H.length + L'.length) = true) ∧ Hb[b]? = H'[b]? ∧ match e with | .normal => J (i + 1) Hb | .ret => X .ret Hb | .exit id => X (.exit id) Hb | _ => False)) (fun _ _ _ _ => False)))
    (hdone : ∀ Hf B, J xs.length Hf → Q .normal A (Hf ++ [.dfr, B]) (H.length :: D))
    (hstop : ∀ c Hf B, X c Hf → Hf.length = H.length → AWP P Γ N none c A (Hf ++ [.dfr, B]) (H.length :: D) Q) : AWP P Γ N none (.rangeFunc g ps assign body) A H D Q := by
  have hbl : b < H.length := (List.getElem?_eq_some_iff.1 hb).1
  intro w0 G w a hs ha hd
  refine wpIn_rangeFunc fun fn _ => ?_
  have hgr := ha.ev hs.glob g
  rw [hg] at hgr
  generalize hga : a.eval g = gv at hgr
  cases hgr with
  | func _ _ _ _ fs' cs' g1 g2 g3 g4 =>
    have hfs : fs' = #[] := by
      have : fs'.size = 0 := by simpa using g1.symm
      exact Array.eq_empty_of_size_eq_zero this
    subst hfs
    -- the two blocks
    let i1 : Info := { blk := w.heap.size, len := 0, size := 0, sub := 0, isRow := false }
    have p1 := hs.push i1 .dfr (w.alloc (.deferred (some []))) (hs.below.alloc hs.size _) (by simp) (fun k hk => Below.heap_alloc _ _ _ hk)
      ⟨rfl, by show (w.heap.push _)[w.heap.size]? = _; simp⟩ (fun _ => ⟨Nat.le_refl _, by simp [i1]⟩)
    let rc : Loop := { state := .ready, pending := none, fn := fn, tmps := a.tmps, params := ps, assign := assign, body := body, defers := w.heap.size }
    let i2 : Info := { blk := w.heap.size + 1, len := 0, size := 0, sub := 0, isRow := false }
    let G1 := G.setInfo H.length i1
    have hal : (H ++ [Blk.dfr]).length = H.length + 1 := by simp
    have hreps : Reps G H.length (dense N A) a.tmps.toList := ⟨by simp [dense, ha.1], fun j p v hp hv => by
      simp only [dense, List.getElem?_map] at hp
      obtain ⟨k, hk, rfl⟩ := Option.map_eq_some_iff.1 hp
      have hjk : k = j := by
        rw [List.getElem?_range (by have := (List.getElem?_eq_some_iff.1 hk).1; simpa using this)] at hk
        exact (Option.some.inj hk).symm
      subst hjk
      have := ha.2 k
      have hvk : a.tmps.getD k undef = v := by
        rw [Array.getD_eq_getD_getElem?]
        rw [Array.getElem?_toList] at hv
        rw [hv]; rfl
      rw [hvk] at this
      exact this⟩
    have p2 := p1.1.push i2 (.loop rc (dense N A)) ((w.alloc (.deferred (some []))).alloc (.loop rc)) (p1.1.below.alloc p1.1.size _) (by simp) (fun k hk => Below.heap_alloc _ _ _ hk)
      (by
        refine ⟨rfl, by show ((w.heap.push _).push _)[w.heap.size + 1]? = _; rw [Array.getElem?_push]; simp, ?_⟩
        refine (hreps.mono p1.2 (Nat.le_succ _)).mono (m := (H ++ [Blk.dfr]).length + 1) ?_ (by simp)
        exact ⟨fun _ _ h => h, fun b hb => .inl (Ghost.setInfo_other _ _ (by omega))⟩) (fun _ => ⟨by simp [i2], by simp [i2]⟩)
    have hev : Evol G H.length ((G.setInfo H.length i1).setInfo (H ++ [Blk.dfr]).length i2) := p1.2.trans p2.2 (by simp)
    have hblk1 : (((G.setInfo H.length i1).setInfo (H ++ [Blk.dfr]).length i2).info H.length).blk = w.heap.size := by
      rw [Ghost.setInfo_other _ _ (by simp), Ghost.setInfo_same]
    have hblk2 : (((G.setInfo H.length i1).setInfo (H ++ [Blk.dfr]).length i2).info (H.length + 1)).blk = w.heap.size + 1 := by
      rw [hal, Ghost.setInfo_same]
    generalize hG2 : (G.setInfo H.length i1).setInfo (H ++ [Blk.dfr]).length i2 = G2 at p2 hev hblk1 hblk2
    have hL : H ++ [Blk.dfr] ++ [Blk.loop rc (dense N A)] = H ++ [Blk.dfr, Blk.loop rc (dense N A)] := by simp
    rw [hL] at p2
    have hr2 : (G2.info (H.length + 1)).isRow = false := by rw [← hG2, hal, Ghost.setInfo_same]
    have hr1 : (G2.info H.length).isRow = false := by rw [← hG2, Ghost.setInfo_other _ _ (by simp), Ghost.setInfo_same]
    refine ⟨w.heap.size + 1, [{ target := .collected w.heap.size, args := #[] }], _, { target := .fn (.func gf) cs', args := #[.func (.yield (w.heap.size + 1)) #[] #[]] }, (w.alloc (.deferred (some []))).alloc (.loop rc), gf, #[.func (.yield (w.heap.size + 1)) #[] #[]] ++ cs', (w.alloc (.deferred (some []))).alloc (.loop rc),
      run_enterLoop_outer (P := P) (w := w) fn a.tmps ps assign body, ?_, fun _ _ => trivial, ?_, fun h => by simp [Fence.wide] at h, ?_⟩
    · simp [resolve, rangeCall, hga, Deferred.ofValue]; exact ⟨rfl, rfl⟩
    · have he' : ∀ args w, (callFunc gf args).run P w = .ok (.enter gf args) w := he
      simp [invoke, he']
    · have hN : a.tmps.size = N := ha.1
      let Rec (r : Loop) : Prop := r.params = ps ∧ r.assign = assign ∧ r.body = body ∧ r.tmps = a.tmps
      have hcall := hit (H.length + 1) (H.length + 2) (fun i Hb => ∃ Hf r, Hb = Hf ++ [.dfr, .loop r (dense N A)] ∧ Rec r ∧ r.state = .ready ∧ r.pending = none ∧ J i Hf)
        (fun Hb => ∃ Hf r c, Hb = Hf ++ [.dfr, .loop r (dense N A)] ∧ Rec r ∧ r.state = .done ∧ r.pending = some c ∧ X c Hf) (fun i Hb hI => by
          obtain ⟨Hf, r, rfl, hrec, hst, hpe, hJi⟩ := hI
          obtain ⟨hlen, hneed⟩ := hJ i Hf hJi
          refine ⟨by simp [hlen], fun cs hcs => ⟨Hf.set b (.box cs), r, by rw [List.set_append_left _ _ (by omega)], hrec, hst, hpe, hneed cs hcs⟩, r, dense N A, by rw [List.getElem?_append_right (by omega), hlen]; simp, by omega, by rw [hrec.1], fun x E hx => ?_⟩
          obtain ⟨st, pe, fn', tm, pa, as', bo, de⟩ := r
          obtain ⟨e1, e2, e3, e4⟩ := hrec
          simp only at e1 e2 e3 e4 hst hpe
          subst e1 e2 e3 e4 hst hpe
          have at2 : ∀ (Ha : List Blk) (B : Blk) (M : List Blk), Ha.length = H.length → (Ha ++ ([.dfr, B] ++ M))[H.length + 1]? = some B := fun Ha B M hl => by
            rw [List.getElem?_append_right (by omega), hl]; simp
          have set2 : ∀ (Ha : List Blk) (B B' : Blk) (M : List Blk), Ha.length = H.length → (Ha ++ ([.dfr, B] ++ M)).set (H.length + 1) B' = Ha ++ ([.dfr, B'] ++ M) := fun Ha B B' M hl => by
            rw [List.set_append_right _ _ (by omega), hl]; simp
          refine around_of_awp (cs := dense N A) rfl (by rw [List.append_assoc]; exact at2 Hf _ E hlen) (fun t ht => by
            rw [Array.all_eq_true'] at hps
            have := hps t (by simpa using ht)
            rw [hN]; simpa using this) fun hbd ro => ?_
          rw [List.append_assoc] at hbd ⊢
          have hlast := hbd (.loop { state := .ready, pending := none, fn := fn', tmps := a.tmps, params := pa, assign := as', body := bo, defers := de } (dense N A)) (by simp)
          have hr := hround i x Hf ([.dfr, .loop { state := .ready, pending := none, fn := fn', tmps := a.tmps, params := pa, assign := as', body := bo, defers := de } (dense N A)] ++ E)
            ([.dfr, .loop (busy { state := .ready, pending := none, fn := fn', tmps := a.tmps, params := pa, assign := as', body := bo, defers := de }) (dense N A)] ++ E) ro hx hJi (by simp) (by simp) hbd (fun B hB => by
              simp only [List.cons_append, List.nil_append, List.mem_cons] at hB
              rcases hB with rfl | rfl | hB
              · rfl
              · exact hlast
              · exact hbd B (by simp [hB]))
          rw [← hN] at hr ⊢
          rw [show (Loop.tmps { state := .ready, pending := none, fn := fn', tmps := a.tmps, params := pa, assign := as', body := bo, defers := de }).size = a.tmps.size from rfl]
          refine hr.mono fun e A1 H1 D1 hq => ?_
          cases e with
          | normal =>
            obtain ⟨rfl, Ha, M, hHa, rfl, hbody⟩ := hq
            refine ⟨rfl, by rw [List.append_assoc, List.append_assoc]; exact at2 Ha _ _ hHa, ?_⟩
            rw [List.append_assoc, List.append_assoc, set2 Ha _ _ _ hHa, ← List.append_assoc [Blk.dfr, _], ← List.append_assoc]
            refine hbody.mono fun e A2 H2 D2 hq2 => ?_
            obtain ⟨Hb, M', hHb, rfl, hHbd, hkeep, hm⟩ := hq2
            rw [List.append_assoc, List.append_assoc]
            have fin : ∀ jump, (if jump.isNone = true then J (i + 1) Hb else ∃ c, jump = some c ∧ X c Hb) → jumpOf e = some jump → ∃ jump m, jumpOf e = some jump ∧
                (Hb ++ ([Blk.dfr, Blk.loop (busy { state := .ready, pending := none, fn := fn', tmps := a.tmps, params := pa, assign := as', body := bo, defers := de }) (dense a.tmps.size A)] ++ (E ++ M')))[H.length + 1]? = some (.loop (busy { state := .ready, pending := none, fn := fn', tmps := a.tmps, params := pa, assign := as', body := bo, defers := de }) (dense a.tmps.size A)) ∧
                (Hf ++ ([Blk.dfr, Blk.loop { state := .ready, pending := none, fn := fn', tmps := a.tmps, params := pa, assign := as', body := bo, defers := de } (dense a.tmps.size A)] ++ E)).length ≤ m ∧ m ≤ (Hb ++ ([Blk.dfr, Blk.loop (busy { state := .ready, pending := none, fn := fn', tmps := a.tmps, params := pa, assign := as', body := bo, defers := de }) (dense a.tmps.size A)] ++ (E ++ M'))).length ∧
                (∀ B ∈ ((Hb ++ ([Blk.dfr, Blk.loop (busy { state := .ready, pending := none, fn := fn', tmps := a.tmps, params := pa, assign := as', body := bo, defers := de }) (dense a.tmps.size A)] ++ (E ++ M'))).set (H.length + 1) (.loop (ended { state := .ready, pending := none, fn := fn', tmps := a.tmps, params := pa, assign := as', body := bo, defers := de } jump) (dense a.tmps.size A))).take m, B.bd m = true) ∧
                ∃ Hb', ((Hb ++ ([Blk.dfr, Blk.loop (busy { state := .ready, pending := none, fn := fn', tmps := a.tmps, params := pa, assign := as', body := bo, defers := de }) (dense a.tmps.size A)] ++ (E ++ M'))).set (H.length + 1) (.loop (ended { state := .ready, pending := none, fn := fn', tmps := a.tmps, params := pa, assign := as', body := bo, defers := de } jump) (dense a.tmps.size A))).take m = Hb' ++ E ∧ Hb'[b]? = (Hf ++ [.dfr, .loop { state := .ready, pending := none, fn := fn', tmps := a.tmps, params := pa, assign := as', body := bo, defers := de } (dense a.tmps.size A)])[b]? ∧
                  if jump.isNone = true then (∃ Hf r, Hb' = Hf ++ [.dfr, .loop r (dense a.tmps.size A)] ∧ Rec r ∧ r.state = .ready ∧ r.pending = none ∧ J (i + 1) Hf)
                  else (Hb'.length = H.length + 2 ∧ ∃ Hf r c, Hb' = Hf ++ [.dfr, .loop r (dense a.tmps.size A)] ∧ Rec r ∧ r.state = .done ∧ r.pending = some c ∧ X c Hf) := fun jump hj hje => by
              have hcut : ∀ B : Blk, (Hb ++ ([Blk.dfr, B] ++ (E ++ M'))).take (H.length + 2 + E.length) = Hb ++ [Blk.dfr, B] ++ E := fun B => by
                rw [show Hb ++ ([Blk.dfr, B] ++ (E ++ M')) = (Hb ++ [Blk.dfr, B] ++ E) ++ M' by simp]
                exact List.take_left' (by simp [hHb]; omega)
              have hn : (Hf ++ ([Blk.dfr, Blk.loop { state := .ready, pending := none, fn := fn', tmps := a.tmps, params := pa, assign := as', body := bo, defers := de } (dense a.tmps.size A)] ++ E)).length = H.length + 2 + E.length := by simp [hlen]; omega
              refine ⟨jump, H.length + 2 + E.length, hje, at2 Hb _ _ hHb, by rw [hn]; exact Nat.le_refl _, by simp [hHb]; omega, ?_, Hb ++ [.dfr, .loop (ended { state := .ready, pending := none, fn := fn', tmps := a.tmps, params := pa, assign := as', body := bo, defers := de } jump) (dense a.tmps.size A)], ?_, by rw [List.getElem?_append_left (by omega), List.getElem?_append_left (by omega)]; exact hkeep, ?_⟩
              · rw [set2 Hb _ _ _ hHb, hcut]
                intro B hB
                rw [List.mem_append, List.mem_append] at hB
                rw [← hN] at hbd
                rw [hn] at hbd
                rcases hB with (hB | hB) | hB
                · have := hHbd B hB
                  rwa [show H.length + 2 + E.length = H.length + ([Blk.dfr, Blk.loop (busy { state := .ready, pending := none, fn := fn', tmps := a.tmps, params := pa, assign := as', body := bo, defers := de }) (dense a.tmps.size A)] ++ E).length by simp; omega]
                · simp only [List.mem_cons, List.not_mem_nil, or_false] at hB
                  rcases hB with rfl | rfl
                  · rfl
                  · exact hbd (.loop { state := .ready, pending := none, fn := fn', tmps := a.tmps, params := pa, assign := as', body := bo, defers := de } (dense a.tmps.size A)) (by simp)
                · exact hbd B (by simp [hB])
              · rw [set2 Hb _ _ _ hHb, hcut]
              · cases jump with
                | none => exact ⟨Hb, _, rfl, ⟨rfl, rfl, rfl, rfl⟩, rfl, rfl, hj⟩
                | some c => obtain ⟨c', hc, hX⟩ := hj; cases hc; exact ⟨by simp [hHb], Hb, _, c, rfl, ⟨rfl, rfl, rfl, rfl⟩, rfl, rfl, hX⟩
            cases e with
            | normal => exact fin none hm rfl
            | ret => exact fin (some .ret) ⟨_, rfl, hm⟩ rfl
            | exit id => exact fin (some (.exit id)) ⟨_, rfl, hm⟩ rfl
            | goto t => exact hm.elim
            | panic c => exact hm.elim
            | outgrown => exact hm.elim
          | ret => exact hq
          | exit id => exact hq
          | goto t => exact hq
          | panic c => exact hq
          | outgrown => exact hq) (H ++ [.dfr, .loop rc (dense N A)]) ⟨H, rc, rfl, ⟨rfl, rfl, rfl, rfl⟩, rfl, rfl, h0⟩ (by rw [List.getElem?_append_left hbl]; exact hb)
      have hargs : Reps G2 (H ++ [Blk.dfr, Blk.loop rc (dense N A)]).length (.yld (H.length + 1) :: caps) (#[Value.func (.yield (w.heap.size + 1)) #[] #[]] ++ cs').toList := by
        rw [Array.toList_append]
        refine Reps.cons ?_ ⟨by simpa using g2, fun j c v hc hv => (g4 j c v hc (by simpa using hv)).mono _ hev (by simp)⟩
        have := Rep.yld (G := G2) (H ++ [Blk.dfr, Blk.loop rc (dense N A)]).length (H.length + 1) (by simp) hr2
        rw [hblk2] at this
        exact this
      refine CallsIn.mono (F := Fr none) (hcall w0 G2 _ _ p2.1 hargs) fun e w' hpost => ?_
      obtain ⟨v, p, H', G', rfl, q1, q2, q3, q4, q5⟩ := hpost
      have hev' : Evol G H.length G' := hev.trans q3 (by simp)
      have keep : ∀ b, b < H.length + 2 → (G2.info b).isRow = false → (G'.info b).blk = (G2.info b).blk ∧ (G'.info b).isRow = false := fun b hb hr => by
        rcases q3.info b (by simpa using hb) with e | ⟨r, _, _⟩
        · rw [e]; exact ⟨rfl, hr⟩
        · rw [hr] at r; cases r
      obtain ⟨kb1, kr1⟩ := keep H.length (by omega) hr1
      obtain ⟨kb2, kr2⟩ := keep (H.length + 1) (by omega) hr2
      rw [hblk1] at kb1
      rw [hblk2] at kb2
      -- the record is ended
      have ends : ∀ (Hf : List Blk) (r : Loop), H' = Hf ++ [.dfr, .loop r (dense N A)] → Hf.length = H.length → r.state ≠ .busy → ∃ w4, (Instr.endLoop (w.heap.size + 1)).run P w' = .ok r.pending w4 ∧
          Sim Γ w0 G' (Hf ++ [.dfr, .loop { r with state := .exhausted } (dense N A)]) w4 := fun Hf r hH hlen hb => by
        have hl : H'[H.length + 1]? = some (.loop r (dense N A)) := by
          rw [hH, List.getElem?_append_right (by omega), hlen]; simp
        obtain ⟨_, hw, _⟩ := q1.blk _ _ hl
        rw [kb2] at hw
        refine ⟨_, run_endLoop hw hb, ?_⟩
        have := q1.setLoop (rec' := { r with state := .exhausted }) hl rfl
        rw [kb2, hH, List.set_append_right _ _ (by omega), hlen] at this
        simpa using this
      have hD : DSim G' (H.length + 2) (H.length :: D) ({ target := .collected w.heap.size, args := #[] } :: a.defers) := by
        have hd' := hd.mono (m := H.length + 2) hev' (by omega)
        refine ⟨?_, fun b hb => ?_⟩
        · rw [List.map_cons, kb1, hd'.1]
        · rcases List.mem_cons.1 hb with rfl | hb
          · exact ⟨by omega, kr1⟩
          · exact hd'.2 b hb
      rcases q5 with ⟨Hf, r, hH, hrec, hst, hpe, hJn⟩ | ⟨hlen2, Hf, r, c, hH, hrec, hst, hpe, hX⟩
      · have hlen := (hJ _ Hf hJn).1
        obtain ⟨w4, k1, k2⟩ := ends Hf r hH hlen (by rw [hst]; simp)
        refine ⟨r.pending, w4, k1, ?_⟩
        rw [hpe]
        have hln : (Hf ++ [Blk.dfr, Blk.loop { r with state := .exhausted } (dense N A)]).length = H.length + 2 := by simp [hlen]
        exact ⟨G', A, _, H.length :: D, k2, by rw [hln]; exact ha.mono hev' (by omega), by rw [hln]; exact hD, hev', by omega, hdone Hf _ hJn⟩
      · have hlen : Hf.length = H.length := by rw [hH] at hlen2; simpa using hlen2
        obtain ⟨w4, k1, k2⟩ := ends Hf r hH hlen (by rw [hst]; simp)
        refine ⟨r.pending, w4, k1, ?_⟩
        rw [hpe]
        have hln : (Hf ++ [Blk.dfr, Blk.loop { r with state := .exhausted } (dense N A)]).length = H.length + 2 := by simp [hlen]
        have := hstop c Hf (.loop { r with state := .exhausted } (dense N A)) hX hlen w0 G' w4 { a with defers := { target := .collected w.heap.size, args := #[] } :: a.defers } k2 (by rw [hln]; exact ha.mono hev' (by omega)) (by rw [hln]; exact hD)
        exact wpIn_mono this fun _ _ _ hl => hl.after hev' (by omega)
theorem awp_forD {c : Code} {S : Type} (keep : List Nat) (st : S → List PV) (Hs : S → List Blk) (Ds : S → List Nat) (μ : S → Nat) (ok : S → Prop) (s0 : S) (h0 : keep.map (alook A) = st s0) (hH : H = Hs s0) (hD : D = Ds s0) (hok : ok s0)
    (round : ∀ s, ok s → AWP P Γ N ro c (keep.zip (st s)) (Hs s) (Ds s) (Post.then (fun A' H' D' => ∃ s', μ s' < μ s ∧ ok s' ∧ keep.map (alook A') = st s' ∧ H' = Hs s' ∧ D' = Ds s') Q)) : AWP P Γ N ro (.loop c) A H D Q := by
  refine awp_loop (fun n A H D' => ∃ s, n = μ s ∧ ok s ∧ keep.map (alook A) = st s ∧ H = Hs s ∧ D' = Ds s) (n := μ s0) ⟨s0, rfl, hok, h0, hH, hD⟩ fun n A H D' hI => ?_
  obtain ⟨s, rfl, h1, h2, rfl, rfl⟩ := hI
  refine awp_less (fun t => zip_look keep _ t A h2) ((round s h1).mono fun e A' H' D' hq => ?_)
  cases e with
  | normal =>
    obtain ⟨s', k1, k2, k3, k4, k5⟩ := hq
    exact ⟨μ s', k1, s', rfl, k2, k3, k4, k5⟩
  | _ => exact hq
end
end Go.Proofs.YteicbhkimepbaaaGreatDoor.Fw
namespace Go.Proofs.YteicbhkimepbaaaGreatDoor.Fw
set_option linter.unusedVariables false
set_option linter.unusedSimpArgs false
set_option maxRecDepth 100000
open Go.RowKit
theorem gfw :
    (∀ (X Y : Type) (f : X → Y) (l : List X), (l.map f).length = l.length) ∧
    (∀ (X Y : Type) (f : X → Y) (l : List X) (i : Nat), (l.map f)[i]? = (l[i]?).map f) ∧
    (∀ (X Y : Type) (f : X → Y) (x : X), Option.map f (some x) = some (f x)) ∧
    (∀ (X Y : Type) (f : X → Y) (x : X) (l : List X), List.map f (x :: l) = f x :: l.map f) ∧
    (∀ (X Y : Type) (f : X → Y), List.map f [] = []) ∧
    (∀ n : Nat, ((0 : Int) ≤ (n : Int)) = True) ∧
    (∀ n : Nat, ((n : Int) < 0) = False) ∧
    (∀ n : Nat, (n : Int).toNat = n) ∧
    (∀ d : Decidable True, @decide True d = true) ∧
    (∀ d : Decidable False, @decide False d = false) ∧
    (∀ b : Bool, (b && true) = b) ∧
    (∀ b : Bool, (b && false) = false) ∧
    (∀ b : Bool, (true && b) = b) ∧
    (∀ b : Bool, (false && b) = false) ∧
    (∀ b : Bool, (b && b) = b) ∧
    (∀ b : Bool, (b || false) = b) ∧
    (∀ b : Bool, (false || b) = b) ∧
    (∀ b : Bool, (b || true) = true) ∧
    (∀ b : Bool, (true || b) = true) ∧
    ((!true) = false) ∧
    ((!false) = true) ∧
    (∀ b : Bool, (!!b) = b) ∧
    (∀ b : Bool, (b == b) = true) ∧
    (∀ (X : Type) (a b : X), (a ≠ b) = ¬ (a = b)) ∧
    (∀ (X : Type) (a : X), (a = a) = True) ∧
    ((¬ False) = True) ∧
    ((¬ True) = False) ∧
    (∀ p : Prop, (p ∧ p) = p) ∧
    (∀ p : Prop, (p ∧ True) = p) ∧
    (∀ p : Prop, (True ∧ p) = p) ∧
    (∀ p : Prop, (p ∧ False) = False) ∧
    (∀ p : Prop, (False ∧ p) = False) := by
  refine ⟨?_, ?_, ?_, ?_, ?_, ?_, ?_, ?_, ?_, ?_, ?_, ?_, ?_, ?_, ?_, ?_, ?_, ?_, ?_, ?_, ?_, ?_, ?_, ?_, ?_, ?_, ?_, ?_, ?_, ?_, ?_, ?_⟩ <;> intros <;> simp
end Go.Proofs.YteicbhkimepbaaaGreatDoor.Fw
namespace Go.Proofs.YteicbhkimepbaaaGreatDoor.Fw
set_option linter.unusedVariables false
set_option linter.unusedSimpArgs false
set_option maxRecDepth 100000
open Go.RowKit
def PV.flat : PV → Bool
  | .bool _ | .int _ _ | .str _ => true
  | _ => false
theorem Rep.flat {G G' : Ghost} {n m : Nat} {p : PV} {v : Value} (h : Rep G n p v) (hp : p.flat = true) : Rep G' m p v := by
  cases h with
  | bool => exact .bool _ _
  | int => exact .int _ _ _
  | str _ _ hn => exact .str _ _ hn
  | _ => cases hp
section
variable {P : Program} {Γ : Nat → PV} {H : List Blk}
theorem Sim.grownD {w0 w w' : World} {G : Ghost} (h : Sim Γ w0 G H w) (hb : BelowD w.heap.size w w') : Sim Γ w0 G H w' :=
  h.step (Evol.refl _ _) (fun _ _ => rfl) (h.below.trans ⟨hb.os, hb.tape, hb.output, hb.size, fun k hk => hb.block k (Nat.lt_of_lt_of_le hk h.size), hb.drawn⟩) hb.size (fun k B hB hl => hb.block _ (h.own k B hB hl).2.1)
    (fun a v ha => by
      have := h.mem a v ha
      rw [cell_of_heap (w := w) (hb.block _ (World.block_lt_of_cell? w a this))]; exact this)
    (fun k B hB hl => (h.own k B hB hl).2.2)
theorem Sim.evolW {w0 w : World} {G : Ghost} (h : Sim Γ w0 G H w) : Evol G 0 (ofW w) := ⟨fun a v ha => h.mem a v ha, fun b hb => absurd hb (Nat.not_lt_zero _)⟩
theorem Sim.plainW {w0 w : World} {G : Ghost} (h : Sim Γ w0 G H w) {n : Nat} {p : PV} {v : Value} (hr : Rep G n p v) (hp : p.plain = true) : Rep (ofW w) 0 p v := (hr.pure hp 0).mono 0 h.evolW (Nat.le_refl _)
theorem Sim.allW {w0 w : World} {G : Ghost} (h : Sim Γ w0 G H w) : Sim Γ w (ofW w) [] w := by
  refine sim_ofW (fun g => (h.glob g).mono 0 h.evolW (Nat.le_refl _)) fun g cs hg => ?_
  obtain ⟨C, e, q, h1, h2⟩ := h.tab g cs hg
  exact ⟨C, e, q, (h.below.block g (Array.getElem?_eq_some_iff.1 h1).1).trans h1, h2⟩
def lent (H : List Blk) : PV → PV → Prop
  | .row b o k sz, q => ∃ C, H[b]? = some (.row sz C) ∧ PV.plainL C = true ∧ C.length = o + k * sz ∧ q = .vec (chunk sz k (C.drop o)) false
  | p, q => p.plain = true ∧ q = p
theorem Sim.rowW {w0 w : World} {G : Ghost} (h : Sim Γ w0 G H w) {b o k sz : Nat} {C : List PV} {v : Value} (hb : H[b]? = some (.row sz C)) (hp : PV.plainL C = true) (hl : C.length = o + k * sz) (hv : Rep G H.length (.row b o k sz) v) : Rep (ofW w) 0 (.vec (chunk sz k (C.drop o)) false) v := by
  obtain ⟨G', h1, h2, h3⟩ := h.freeze hb hp
  exact h1.plainW (h3 _ 0 _ _ _ hv hl) rfl
theorem Sim.lentW {w0 w : World} {G : Ghost} (h : Sim Γ w0 G H w) {p q : PV} {v : Value} (hr : Rep G H.length p v) (hq : lent H p q) : Rep (ofW w) 0 q v := by
  cases p with
  | row b o k sz =>
    obtain ⟨C, h1, h2, h3, rfl⟩ := hq
    exact h.rowW h1 h2 h3 hr
  | _ => obtain ⟨hp, rfl⟩ := hq; exact h.plainW hr hp
theorem acalls_lent {f : FuncId} {args args' : List PV} {p : PV} (h : Gives P Γ f args' p) (hp : p.flat = true) (hl : args'.length = args.length) (ha : ∀ (i : Nat) a a', args[i]? = some a → args'[i]? = some a' → lent H a a') : ACalls P Γ f args H (fun q H' => q = p ∧ H' = H) := by
  intro w0 G w vs hs hr
  refine (h [] w (ofW w) w vs hs.allW ⟨hl.trans hr.1, fun i q v hq hv => ?_⟩).mono fun e w' ⟨v, q, H', G', k1, k2, k3, k4, k5, k6⟩ => ?_
  · obtain ⟨a, hai⟩ : ∃ a, args[i]? = some a := ⟨_, List.getElem?_eq_getElem (by have := (List.getElem?_eq_some_iff.1 hq).1; omega)⟩
    exact hs.lentW (hr.2 i a v hai hv) (ha i a q hai hq)
  · obtain ⟨rfl, rfl⟩ := k6
    exact ⟨v, q, H, G, k1, hs.grownD k2.below, k3.flat hp, Evol.refl _ _, Nat.le_refl _, rfl, rfl⟩
end
end Go.Proofs.YteicbhkimepbaaaGreatDoor.Fw
namespace Go.Proofs.YteicbhkimepbaaaGreatDoor
set_option linter.unusedVariables false
set_option linter.unusedSimpArgs false
set_option maxRecDepth 100000
open Go
theorem low_bits {x k m : Nat} (hx : x = 2 ^ k * (2 * m + 1)) : (∀ j, j < k → x.testBit j = false) ∧ x.testBit k = true ∧ ∀ j, (x &&& (x - 1)).testBit j = (x.testBit j && decide (j ≠ k)) := by
  have h1 : ∀ j, x.testBit j = (decide (k ≤ j) && (2 * m + 1).testBit (j - k)) := fun j => by rw [hx, Nat.testBit_two_pow_mul]
  have hp : 0 < 2 ^ k := Nat.two_pow_pos k
  have e2 : x - 1 = 2 ^ (k + 1) * m + (2 ^ k - 1) := by rw [hx, Nat.pow_succ, Nat.mul_add, Nat.mul_assoc]; omega
  have e3 : x = 2 ^ (k + 1) * m + 2 ^ k := by rw [hx, Nat.pow_succ, Nat.mul_add, Nat.mul_assoc]; omega
  have hlt : 2 ^ k < 2 ^ (k + 1) := Nat.pow_lt_pow_right (by decide) (by omega)
  have h2 : ∀ j, (x - 1).testBit j = if j < k + 1 then (2 ^ k - 1).testBit j else m.testBit (j - (k + 1)) := fun j => by rw [e2, Nat.testBit_two_pow_mul_add _ (by omega)]
  have h3 : ∀ j, x.testBit j = if j < k + 1 then (2 ^ k).testBit j else m.testBit (j - (k + 1)) := fun j => by conv => lhs; rw [e3, Nat.testBit_two_pow_mul_add _ hlt]
  refine ⟨fun j hj => ?_, ?_, fun j => ?_⟩
  · rw [h1, decide_eq_false (by omega), Bool.false_and]
  · rw [h1, Nat.sub_self]; simp
  · rw [Nat.testBit_and, h2, h3]
    by_cases hj : j < k + 1
    · rw [if_pos hj, if_pos hj, Nat.testBit_two_pow]
      by_cases e : k = j
      · subst e; simp
      · simp [e]
    · rw [if_neg hj, if_neg hj, Bool.and_self, decide_eq_true (by omega : j ≠ k), Bool.and_true]
def bitsOf (x : Nat) : List Nat := (List.range 64).filter x.testBit
theorem bitsOf_zero : bitsOf 0 = [] := by
  unfold bitsOf
  refine List.filter_eq_nil_iff.2 fun a _ => by simp
theorem mem_bitsOf {x j : Nat} (hx : x < 2 ^ 64) : j ∈ bitsOf x ↔ x.testBit j = true := by
  unfold bitsOf
  rw [List.mem_filter, List.mem_range]
  constructor
  · exact fun h => h.2
  · intro h
    refine ⟨?_, h⟩
    refine Nat.lt_of_not_le fun hj => ?_
    rw [Nat.testBit_lt_two_pow (Nat.lt_of_lt_of_le hx (Nat.pow_le_pow_right (by decide) hj))] at h
    cases h
theorem rise_uniq : ∀ l k : List Nat, l.Pairwise (· < ·) → k.Pairwise (· < ·) → (∀ x, x ∈ l ↔ x ∈ k) → l = k
  | [], [], _, _, _ => rfl
  | [], y :: k, _, _, h => absurd ((h y).2 (by simp)) (by simp)
  | x :: l, [], _, _, h => absurd ((h x).1 (by simp)) (by simp)
  | x :: l, y :: k, hl, hk, h => by
    obtain ⟨h1, h2⟩ := List.pairwise_cons.1 hl
    obtain ⟨h3, h4⟩ := List.pairwise_cons.1 hk
    have e : x = y := by
      rcases List.mem_cons.1 ((h x).1 (by simp)) with e | e
      · exact e
      · rcases List.mem_cons.1 ((h y).2 (by simp)) with e' | e'
        · exact e'.symm
        · have := h1 y e'; have := h3 x e; omega
    subst e
    congr 1
    refine rise_uniq l k h2 h4 fun z => ?_
    have hz := h z
    simp only [List.mem_cons] at hz
    constructor
    · intro hm
      rcases hz.1 (.inr hm) with e | e
      · have := h1 z hm; omega
      · exact e
    · intro hm
      rcases hz.2 (.inr hm) with e | e
      · have := h3 z hm; omega
      · exact e
theorem bitsOf_rise (x : Nat) : (bitsOf x).Pairwise (· < ·) := List.Pairwise.filter _ List.pairwise_lt_range
theorem and_pred_lt {x : Nat} (hx : x < 2 ^ 64) : x &&& (x - 1) < 2 ^ 64 := Nat.lt_of_le_of_lt Nat.and_le_left hx
theorem bitsOf_step {x : Nat} (h0 : x ≠ 0) (hx : x < 2 ^ 64) : bitsOf x = Lib.ctz 64 x :: bitsOf (x &&& (x - 1)) := by
  obtain ⟨m, hm, hk⟩ := Lib.ctzFrom_spec 64 x (by omega) hx
  have e : Lib.ctz 64 x = Lib.ctzFrom 64 x := by simp [Lib.ctz, h0]
  rw [← e] at hm hk
  obtain ⟨h1, h2, h3⟩ := low_bits hm
  refine rise_uniq _ _ (bitsOf_rise x) (List.pairwise_cons.2 ⟨fun j hj => ?_, bitsOf_rise _⟩) fun j => ?_
  · rw [mem_bitsOf (and_pred_lt hx), h3, Bool.and_eq_true, decide_eq_true_eq] at hj
    refine Nat.lt_of_not_le fun hle => ?_
    rw [h1 j (by omega)] at hj; exact absurd hj.1 (by simp)
  · rw [List.mem_cons, mem_bitsOf hx, mem_bitsOf (and_pred_lt hx), h3, Bool.and_eq_true, decide_eq_true_eq]
    constructor
    · intro h
      by_cases e : j = Lib.ctz 64 x
      · exact .inl e
      · exact .inr ⟨h, e⟩
    · rintro (rfl | h)
      · exact h2
      · exact h.1
def lq (u : List Nat) (a b : Nat) : Bool := (u.getD a 0).testBit b
def dn (u : List Nat) (a : Nat) : Nat → Nat
  | 0 => 0
  | k + 1 => dn u a k ||| ((((u.getD k 0) >>> a) &&& 1) <<< k)
theorem one_bit (x a k j : Nat) : (((x >>> a) &&& 1) <<< k).testBit j = (decide (j = k) && x.testBit a) := by
  rw [Nat.testBit_shiftLeft, Nat.testBit_and, Nat.testBit_shiftRight]
  by_cases h : j = k
  · subst h; simp
  · by_cases h2 : k ≤ j
    · obtain ⟨i, hi⟩ : ∃ i, j - k = i + 1 := ⟨j - k - 1, by omega⟩
      rw [hi, Nat.testBit_succ]
      simp [h]
    · simp [h, h2]
theorem dn_bit (u : List Nat) (a : Nat) : ∀ k j, (dn u a k).testBit j = (decide (j < k) && lq u j a)
  | 0, j => by simp [dn]
  | k + 1, j => by
    unfold dn
    rw [Nat.testBit_or, dn_bit u a k j, one_bit]
    by_cases h : j = k
    · subst h; simp [lq]
    · simp only [h, decide_false, Bool.false_and, Bool.or_false]
      congr 1
      exact decide_eq_decide.2 (by omega)
theorem lt_of_bits {x n : Nat} (h : ∀ j, n ≤ j → x.testBit j = false) : x < 2 ^ n := Nat.lt_pow_two_of_testBit x h
theorem dn_lt (u : List Nat) (a k : Nat) : dn u a k < 2 ^ k := lt_of_bits fun j hj => by rw [dn_bit, decide_eq_false (by omega), Bool.false_and]
def andn (x y : Nat) : Nat := (BitVec.ofInt 64 x &&& ~~~ BitVec.ofInt 64 y).toNat
theorem ofInt_bit (x : Nat) (j : Nat) : (BitVec.ofInt 64 (x : Int)).getLsbD j = (decide (j < 64) && x.testBit j) := by
  rw [BitVec.ofInt_natCast, BitVec.getLsbD_ofNat]
theorem andn_bit (x y j : Nat) : (andn x y).testBit j = (decide (j < 64) && x.testBit j && !y.testBit j) := by
  unfold andn
  rw [BitVec.testBit_toNat, BitVec.getLsbD_and, BitVec.getLsbD_not, ofInt_bit, ofInt_bit]
  cases decide (j < 64) <;> simp
theorem and_nat {x y : Nat} (hx : x < 2 ^ 64) : (BitVec.ofInt 64 (x : Int) &&& BitVec.ofInt 64 (y : Int)).toNat = x &&& y := by
  refine Nat.eq_of_testBit_eq fun j => ?_
  rw [BitVec.testBit_toNat, BitVec.getLsbD_and, ofInt_bit, ofInt_bit, Nat.testBit_and]
  by_cases hj : j < 64
  · simp [hj]
  · rw [Nat.testBit_lt_two_pow (Nat.lt_of_lt_of_le hx (Nat.pow_le_pow_right (by decide) (Nat.le_of_not_lt hj)))]; simp
theorem or_nat {x y : Nat} (hx : x < 2 ^ 64) (hy : y < 2 ^ 64) : (BitVec.ofInt 64 (x : Int) ||| BitVec.ofInt 64 (y : Int)).toNat = x ||| y := by
  refine Nat.eq_of_testBit_eq fun j => ?_
  rw [BitVec.testBit_toNat, BitVec.getLsbD_or, ofInt_bit, ofInt_bit, Nat.testBit_or]
  by_cases hj : j < 64
  · simp [hj]
  · have h : ∀ z, z < 2 ^ 64 → z.testBit j = false := fun z hz => Nat.testBit_lt_two_pow (Nat.lt_of_lt_of_le hz (Nat.pow_le_pow_right (by decide) (Nat.le_of_not_lt hj)))
    rw [h x hx, h y hy]; simp
theorem andn_zero {x y : Nat} (hx : x < 2 ^ 64) : andn x y = 0 ↔ ∀ j, x.testBit j = true → y.testBit j = true := by
  constructor
  · intro h j hj
    have h2 := andn_bit x y j
    rw [h, Nat.zero_testBit, hj] at h2
    have hj64 : j < 64 := Nat.lt_of_not_le fun hle => by
      rw [Nat.testBit_lt_two_pow (Nat.lt_of_lt_of_le hx (Nat.pow_le_pow_right (by decide) hle))] at hj; cases hj
    rw [decide_eq_true hj64] at h2
    cases hy : y.testBit j
    · rw [hy] at h2; cases h2
    · rfl
  · intro h
    refine Nat.eq_of_testBit_eq fun j => ?_
    rw [andn_bit, Nat.zero_testBit]
    cases hxj : x.testBit j
    · simp
    · rw [h j hxj]; simp
theorem andn_lt (x y : Nat) : andn x y < 2 ^ 64 := (BitVec.ofInt 64 (x : Int) &&& ~~~ BitVec.ofInt 64 (y : Int)).isLt
end Go.Proofs.YteicbhkimepbaaaGreatDoor
namespace Go.Proofs.YteicbhkimepbaaaGreatDoor
set_option linter.unusedVariables false
set_option linter.unusedSimpArgs false
set_option maxRecDepth 100000
open Go
def ordB (n : Nat) (r : Nat → Nat → Bool) : Bool := (List.range n).all fun a => r a a && (List.range n).all fun b => (!(r a b && r b a) || decide (a = b)) && (List.range n).all fun c => !(r a b && r b c) || r a c
theorem ordB_iff {n : Nat} {r : Nat → Nat → Bool} : ordB n r = true ↔ Ord n r := by
  unfold ordB
  simp only [List.all_eq_true, List.mem_range, Bool.and_eq_true, Bool.or_eq_true, Bool.not_eq_true', decide_eq_true_eq]
  constructor
  · intro h
    refine ⟨fun a ha => (h a ha).1, fun a b ha hb h1 h2 => ?_, fun a b c ha hb hc h1 h2 => ?_⟩
    · rcases ((h a ha).2 b hb).1 with h3 | h3
      · rw [h1, h2] at h3; cases h3
      · exact h3
    · rcases ((h a ha).2 b hb).2 c hc with h3 | h3
      · rw [h1, h2] at h3; cases h3
      · exact h3
  · intro h a ha
    refine ⟨h.refl a ha, fun b hb => ⟨?_, fun c hc => ?_⟩⟩
    · cases h1 : r a b <;> cases h2 : r b a <;> simp
      exact h.anti a b ha hb h1 h2
    · cases h1 : r a b <;> cases h2 : r b c <;> simp
      exact h.trans a b c ha hb hc h1 h2
def boundB (n : Nat) (r : Nat → Nat → Bool) : Bool := (List.range n).all fun a => (List.range n).all fun b => (jn n r a b).isSome && (jn n (tr r) a b).isSome
theorem latt_iff {n : Nat} {r : Nat → Nat → Bool} (hn : 0 < n) : (ordB n r = true ∧ boundB n r = true) ↔ Latt n r := by
  rw [ordB_iff]
  unfold boundB
  simp only [List.all_eq_true, List.mem_range, Bool.and_eq_true]
  constructor
  · rintro ⟨h1, h2⟩
    exact { h1 with pos := hn, hasJ := fun a b ha hb => (h2 a ha b hb).1, hasM := fun a b ha hb => (h2 a ha b hb).2 }
  · intro h
    exact ⟨h.toOrd, fun a ha b hb => ⟨h.hasJ a b ha hb, h.hasM a b ha hb⟩⟩
def boundP (n : Nat) (r : Nat → Nat → Bool) : Bool := (List.range n).all fun a => (List.range a).all fun b => (jn n r a b).isSome && (jn n (tr r) a b).isSome
theorem boundP_eq {n : Nat} {r : Nat → Nat → Bool} (h : Ord n r) : boundP n r = boundB n r := by
  refine Bool.eq_iff_iff.2 ?_
  unfold boundP boundB
  simp only [List.all_eq_true, List.mem_range, Bool.and_eq_true]
  constructor
  · intro h1 a ha b hb
    rcases Nat.lt_trichotomy a b with hab | hab | hab
    · have := h1 b hb a hab
      rw [jn_comm h ha hb, jn_comm h.tr ha hb]; exact this
    · subst hab
      rw [isJ_jn h ha ha (isJ_self h ha), isJ_jn h.tr ha ha (isJ_self h.tr ha)]; exact ⟨rfl, rfl⟩
    · exact h1 a ha b hab
  · intro h1 a ha b hb
    exact h1 a ha b (by omega)
def Inn (n : Nat) (u : List Nat) : Prop := ∀ x ∈ u, x < 2 ^ n
theorem getD_lt {n : Nat} {u : List Nat} (h : Inn n u) (a : Nat) : u.getD a 0 < 2 ^ n := by
  rw [List.getD_eq_getElem?_getD]
  cases e : u[a]? with
  | none => exact Nat.two_pow_pos n
  | some x => exact h x (List.mem_of_getElem? e)
theorem le64 {n x : Nat} (hn : n ≤ 64) (h : x < 2 ^ n) : x < 2 ^ 64 := Nat.lt_of_lt_of_le h (Nat.pow_le_pow_right (by decide) hn)
theorem bit_lt {n x j : Nat} (h : x < 2 ^ n) (hj : x.testBit j = true) : j < n := Nat.lt_of_not_le fun hle => by
  rw [Nat.testBit_lt_two_pow (Nat.lt_of_lt_of_le h (Nat.pow_le_pow_right (by decide) hle))] at hj; cases hj
def okRow (u : List Nat) (n a : Nat) : Bool := !decide (u.getD a 0 &&& 2 ^ a = 0) && decide (u.getD a 0 &&& dn u a n = 2 ^ a) && (bitsOf (u.getD a 0)).all fun b => decide (andn (u.getD b 0) (u.getD a 0) = 0)
theorem and_pow_zero (x a : Nat) : x &&& 2 ^ a = 0 ↔ x.testBit a = false := by
  constructor
  · intro h
    have h1 := congrArg (fun z => z.testBit a) h
    simpa [Nat.testBit_two_pow_self] using h1
  · intro h
    refine Nat.eq_of_testBit_eq fun j => ?_
    rw [Nat.testBit_and, Nat.testBit_two_pow, Nat.zero_testBit]
    by_cases e : a = j
    · subst e; rw [h]; rfl
    · rw [decide_eq_false e, Bool.and_false]
theorem okRow_iff {u : List Nat} {n a : Nat} (hl : u.length = n) (hn : n ≤ 64) (hi : Inn n u) (ha : a < n) :
    okRow u n a = true ↔ (lq u a a = true ∧ (∀ b, b < n → lq u a b = true → lq u b a = true → a = b) ∧ ∀ b c, b < n → c < n → lq u a b = true → lq u b c = true → lq u a c = true) := by
  have hx := getD_lt hi a
  unfold okRow
  simp only [Bool.and_eq_true, Bool.not_eq_true', decide_eq_false_iff_not, decide_eq_true_eq, List.all_eq_true]
  rw [and_pow_zero]
  simp only [Bool.not_eq_false]
  constructor
  · rintro ⟨⟨h1, h2⟩, h3⟩
    refine ⟨h1, fun b hb hab hba => ?_, fun b c hb hc hab hbc => ?_⟩
    · have h4 := congrArg (fun z => z.testBit b) h2
      simp only [Nat.testBit_and, dn_bit, Nat.testBit_two_pow, decide_eq_true hb, Bool.true_and] at h4
      rw [show (u.getD a 0).testBit b = true from hab, show lq u b a = true from hba] at h4
      simpa using h4
    · exact (andn_zero (le64 hn (getD_lt hi b))).1 (h3 b ((mem_bitsOf (le64 hn hx)).2 hab)) c hbc
  · rintro ⟨h1, h2, h3⟩
    refine ⟨⟨h1, ?_⟩, fun b hb => ?_⟩
    · refine Nat.eq_of_testBit_eq fun j => ?_
      rw [Nat.testBit_and, dn_bit, Nat.testBit_two_pow]
      by_cases e : a = j
      · subst e
        rw [show (u.getD a 0).testBit a = true from h1, h1, decide_eq_true ha, decide_eq_true rfl]; rfl
      · rw [decide_eq_false e]
        by_cases hj : j < n
        · cases h5 : (u.getD a 0).testBit j
          · rfl
          · cases h6 : lq u j a
            · rw [Bool.and_false, Bool.and_false]
            · exact absurd (h2 j hj h5 h6) e
        · rw [decide_eq_false hj, Bool.false_and, Bool.and_false]
    · have hab := (mem_bitsOf (le64 hn hx)).1 hb
      have hbn := bit_lt hx hab
      exact (andn_zero (le64 hn (getD_lt hi b))).2 fun c hc => h3 b c hbn (bit_lt (getD_lt hi b) hc) hab hc
theorem rows_ord {u : List Nat} {n : Nat} (hl : u.length = n) (hn : n ≤ 64) (hi : Inn n u) : (List.range n).all (okRow u n) = ordB n (lq u) := by
  refine Bool.eq_iff_iff.2 ?_
  rw [ordB_iff, List.all_eq_true]
  simp only [List.mem_range]
  constructor
  · intro h
    exact ⟨fun a ha => ((okRow_iff hl hn hi ha).1 (h a ha)).1, fun a b ha hb => ((okRow_iff hl hn hi ha).1 (h a ha)).2.1 b hb, fun a b c ha hb hc => ((okRow_iff hl hn hi ha).1 (h a ha)).2.2 b c hb hc⟩
  · intro h a ha
    exact (okRow_iff hl hn hi ha).2 ⟨h.refl a ha, fun b hb => h.anti a b ha hb, fun b c hb hc => h.trans a b c ha hb hc⟩
theorem find_range {p : Nat → Bool} {n m : Nat} (hnm : n ≤ m) (h : ∀ j, n ≤ j → p j = false) : (List.range m).find? p = (List.range n).find? p := by
  obtain ⟨d, rfl⟩ : ∃ d, m = n + d := ⟨m - n, by omega⟩
  rw [List.range_add, List.find?_append]
  have : ((List.range d).map (fun x => n + x)).find? p = none := by
    rw [List.find?_eq_none]
    intro x hx
    obtain ⟨y, _, rfl⟩ := List.mem_map.1 hx
    rw [h _ (by omega)]; simp
  rw [this, Option.or_none]
def joinP (u : List Nat) (a b : Nat) : Option Nat := (bitsOf (u.getD a 0 &&& u.getD b 0)).find? fun c => decide (andn (u.getD a 0 &&& u.getD b 0) (u.getD c 0) = 0)
def meetP (u : List Nat) (n a b : Nat) : Option Nat := (bitsOf (dn u a n &&& dn u b n)).find? fun c => decide (andn (dn u a n &&& dn u b n) (dn u c n) = 0)
theorem find_congr {p q : Nat → Bool} : ∀ l : List Nat, (∀ c ∈ l, p c = q c) → l.find? p = l.find? q
  | [], _ => rfl
  | a :: l, h => by
    rw [List.find?_cons, List.find?_cons, h a (by simp), find_congr l fun c hc => h c (by simp [hc])]
theorem find_set {x n : Nat} {q p : Nat → Bool} (hn : n ≤ 64) (hx : x < 2 ^ n) (h : ∀ c, c < n → p c = (x.testBit c && q c)) : (bitsOf x).find? q = (List.range n).find? p := by
  unfold bitsOf
  rw [List.find?_filter, find_range hn fun j hj => by
    cases e : x.testBit j
    · rfl
    · exact absurd (bit_lt hx e) (by omega)]
  refine find_congr _ fun c hc => ?_
  rw [h c (List.mem_range.1 hc)]
  cases x.testBit c <;> cases q c <;> rfl
theorem joinP_eq {u : List Nat} {n a b : Nat} (hn : n ≤ 64) (hi : Inn n u) : joinP u a b = jn n (lq u) a b := by
  have hx : u.getD a 0 &&& u.getD b 0 < 2 ^ n := Nat.lt_of_le_of_lt Nat.and_le_left (getD_lt hi a)
  unfold joinP jn
  refine find_set hn hx fun c hc => ?_
  rw [Nat.testBit_and]
  show (lq u a c && lq u b c && _) = (lq u a c && lq u b c && _)
  congr 1
  refine Bool.eq_iff_iff.2 ?_
  rw [decide_eq_true_eq, andn_zero (le64 hn hx), List.all_eq_true]
  constructor
  · intro h j hj
    have hjn := bit_lt hx hj
    have h1 := h j (List.mem_range.2 hjn)
    rw [Nat.testBit_and] at hj
    rw [show (lq u a j && lq u b j) = true from hj] at h1
    exact h1
  · intro h j _
    cases h1 : (lq u a j && lq u b j)
    · rfl
    · have := h j (by rw [Nat.testBit_and]; exact h1)
      rw [show lq u c j = true from this]; rfl
theorem meetP_eq {u : List Nat} {n a b : Nat} (hl : u.length = n) (hn : n ≤ 64) : meetP u n a b = jn n (tr (lq u)) a b := by
  have hx : dn u a n &&& dn u b n < 2 ^ n := Nat.lt_of_le_of_lt Nat.and_le_left (dn_lt u a n)
  have hb : ∀ c j, j < n → (dn u c n).testBit j = tr (lq u) c j := fun c j hj => by rw [dn_bit, decide_eq_true hj]; rfl
  unfold meetP jn
  refine find_set hn hx fun c hc => ?_
  rw [Nat.testBit_and, hb a c hc, hb b c hc]
  congr 1
  refine Bool.eq_iff_iff.2 ?_
  rw [decide_eq_true_eq, andn_zero (le64 hn hx), List.all_eq_true]
  constructor
  · intro h j hj
    have hjn := bit_lt hx hj
    have h1 := h j (List.mem_range.2 hjn)
    rw [Nat.testBit_and, hb a j hjn, hb b j hjn] at hj
    rw [hj] at h1
    rw [hb c j hjn]
    simpa using h1
  · intro h j hj
    have hjn := List.mem_range.1 hj
    cases h1 : (tr (lq u) a j && tr (lq u) b j)
    · rfl
    · have := h j (by rw [Nat.testBit_and, hb a j hjn, hb b j hjn]; exact h1)
      rw [hb c j hjn] at this
      rw [this]; rfl
end Go.Proofs.YteicbhkimepbaaaGreatDoor
namespace Go.Proofs.YteicbhkimepbaaaGreatDoor
set_option linter.unusedVariables false
set_option linter.unusedSimpArgs false
set_option maxRecDepth 100000
open Go Go.RowKit
theorem ubits : IntKind.u64.bits = 64 := rfl
theorem uWrap {x : Int} (h0 : 0 ≤ x) (h : x < 18446744073709551616) : IntKind.u64.wrap x = x := by
  unfold IntKind.wrap
  have hb : IntKind.u64.bits = 64 := rfl
  have hsg : IntKind.u64.signed = false := rfl
  simp only [hb, hsg, Bool.false_and, Bool.false_eq_true, ↓reduceIte]
  omega
theorem uWrapN {x : Nat} (h : x < 2 ^ 64) : IntKind.u64.wrap (x : Int) = (x : Int) := uWrap (by omega) (by omega)
theorem uAnd {x y : Nat} (hx : x < 2 ^ 64) : IntKind.u64.wrap ((BitVec.ofInt IntKind.u64.bits (x : Int) &&& BitVec.ofInt IntKind.u64.bits (y : Int)).toNat : Int) = ((x &&& y : Nat) : Int) := by
  have e : (BitVec.ofInt IntKind.u64.bits (x : Int) &&& BitVec.ofInt IntKind.u64.bits (y : Int)).toNat = x &&& y := and_nat hx
  rw [e, uWrapN (Nat.lt_of_le_of_lt Nat.and_le_left hx)]
theorem uAnd1 {x : Nat} (hx : x < 2 ^ 64) : IntKind.u64.wrap ((BitVec.ofInt IntKind.u64.bits (x : Int) &&& BitVec.ofInt IntKind.u64.bits 1).toNat : Int) = ((x &&& 1 : Nat) : Int) := uAnd (y := 1) hx
theorem uOr {x y : Nat} (hx : x < 2 ^ 64) (hy : y < 2 ^ 64) : IntKind.u64.wrap ((BitVec.ofInt IntKind.u64.bits (x : Int) ||| BitVec.ofInt IntKind.u64.bits (y : Int)).toNat : Int) = ((x ||| y : Nat) : Int) := by
  have e : (BitVec.ofInt IntKind.u64.bits (x : Int) ||| BitVec.ofInt IntKind.u64.bits (y : Int)).toNat = x ||| y := or_nat hx hy
  rw [e, uWrapN (Nat.or_lt_two_pow hx hy)]
theorem uAndn (x y : Nat) : IntKind.u64.wrap ((BitVec.ofInt IntKind.u64.bits (x : Int) &&& ~~~BitVec.ofInt IntKind.u64.bits (y : Int)).toNat : Int) = ((andn x y : Nat) : Int) := uWrapN (andn_lt x y)
theorem uShr {x : Nat} (a : Nat) (hx : x < 2 ^ 64) : (x : Int).fdiv (2 ^ min a IntKind.u64.bits) = ((x >>> a : Nat) : Int) := by
  have key : ∀ b : Nat, (x : Int).fdiv (2 ^ b) = ((x >>> b : Nat) : Int) := fun b => by
    rw [Int.fdiv_eq_ediv_of_nonneg _ (by have := Int.pow_pos (n := (2 : Int)) (m := b) (by decide); omega), Nat.shiftRight_eq_div_pow]; simp
  rw [key, ubits]
  by_cases h : a ≤ 64
  · rw [Nat.min_eq_left h]
  · rw [Nat.min_eq_right (by omega), Nat.shiftRight_eq_div_pow, Nat.shiftRight_eq_div_pow, Nat.div_eq_of_lt hx, Nat.div_eq_of_lt (Nat.lt_of_lt_of_le hx (Nat.pow_le_pow_right (by decide) (by omega)))]
theorem uShl {x a : Nat} (ha : a ≤ 64) (h : x <<< a < 2 ^ 64) : IntKind.u64.wrap ((x : Int) * 2 ^ min a IntKind.u64.bits) = ((x <<< a : Nat) : Int) := by
  rw [ubits, Nat.min_eq_left ha]
  have e : (x : Int) * 2 ^ a = ((x <<< a : Nat) : Int) := by rw [Nat.shiftLeft_eq]; simp
  rw [e, uWrapN h]
theorem uOne {a : Nat} (ha : a < 64) : IntKind.u64.wrap (1 * 2 ^ min a IntKind.u64.bits) = ((2 ^ a : Nat) : Int) := by
  have h2 : (1 : Nat) <<< a = 2 ^ a := by rw [Nat.shiftLeft_eq, Nat.one_mul]
  have h := uShl (x := 1) (a := a) (by omega) (by rw [h2]; exact Nat.pow_lt_pow_right (by decide) ha)
  rw [h2] at h; exact h
theorem uAll {n : Nat} (hn : n ≤ 64) : IntKind.u64.wrap (IntKind.u64.wrap (1 * 2 ^ min n IntKind.u64.bits) - 1) = ((2 ^ n - 1 : Nat) : Int) := by
  by_cases h : n < 64
  · rw [uOne h]
    have h1 := Nat.two_pow_pos n
    have h2 : 2 ^ n < 2 ^ 64 := Nat.pow_lt_pow_right (by decide) h
    have e : ((2 ^ n : Nat) : Int) - 1 = ((2 ^ n - 1 : Nat) : Int) := by omega
    rw [e, uWrapN (by omega)]
  · obtain rfl : n = 64 := by omega
    decide
theorem bit_eq (x b : Nat) : decide (((x >>> b &&& 1 : Nat) : Int) = 1) = x.testBit b := by
  have h : x >>> b &&& 1 = (x.testBit b).toNat := by rw [Nat.and_comm, Nat.testBit, Nat.and_comm]; rw [Nat.and_one_is_mod]; rcases Nat.mod_two_eq_zero_or_one (x >>> b) with h | h <;> simp [h]
  rw [h]
  cases x.testBit b <;> rfl
theorem bit_mod (x b : Nat) : decide ((((x >>> b : Nat) : Int)).tmod 2 = 1) = x.testBit b := by
  have h := bit_eq x b
  rw [Nat.and_one_is_mod] at h
  rw [← h]
  refine decide_eq_decide.2 ?_
  have : ((x >>> b : Nat) : Int).tmod 2 = ((x >>> b % 2 : Nat) : Int) := by
    rw [Int.tmod_eq_emod_of_nonneg (Int.natCast_nonneg _)]; simp
  rw [this]
theorem all_zero {x n : Nat} (hn : n ≤ 64) (hx : x < 2 ^ 64) : decide (((andn x (2 ^ n - 1) : Nat) : Int) = 0) = decide (x < 2 ^ n) := by
  refine decide_eq_decide.2 ?_
  have e : ((andn x (2 ^ n - 1) : Nat) : Int) = 0 ↔ andn x (2 ^ n - 1) = 0 := by omega
  rw [e, andn_zero hx]
  constructor
  · intro h
    refine lt_of_bits fun j hj => ?_
    cases hb : x.testBit j
    · rfl
    · have := h j hb
      rw [Nat.testBit_two_pow_sub_one] at this
      simp at this; omega
  · intro h j hj
    rw [Nat.testBit_two_pow_sub_one]
    exact decide_eq_true (bit_lt h hj)
theorem cast_eq (x y : Nat) : decide ((x : Int) = (y : Int)) = decide (x = y) := decide_eq_decide.2 (by omega)
end Go.Proofs.YteicbhkimepbaaaGreatDoor
namespace Go.Proofs.YteicbhkimepbaaaGreatDoor
set_option linter.unusedVariables false
set_option linter.unusedSimpArgs false
set_option maxRecDepth 100000
open Go.RowKit Fw
theorem flat_len {X : Type} {enc : X → List PV} {sz : Nat} (h : ∀ x, (enc x).length = sz) (l : List X) : ((l.map enc).flatten).length = l.length * sz := by
  rw [flatten_len (sz := sz) (fun e he => by obtain ⟨x, _, rfl⟩ := List.mem_map.1 he; exact h x), List.length_map]
theorem flat_chunk {X : Type} {enc : X → List PV} {sz : Nat} (h : ∀ x, (enc x).length = sz) (l : List X) : chunk sz l.length ((l.map enc).flatten) = l.map enc := by
  have := chunk_flatten (sz := sz) (es := l.map enc) (fun e he => by obtain ⟨x, _, rfl⟩ := List.mem_map.1 he; exact h x)
  rwa [List.length_map] at this
theorem flat_bd {X : Type} {enc : X → List PV} {m : Nat} (h : ∀ x, PV.bdL m (enc x) = true) (l : List X) : PV.bdL m ((l.map enc).flatten) = true := by
  induction l with
  | nil => rfl
  | cons x l ih => rw [List.map_cons, List.flatten_cons, PV.bdL_append, h, ih]; rfl
def I64 (n : Int) : Prop := -9223372036854775808 ≤ n ∧ n ≤ 9223372036854775807
theorem wrapId {a : Int} (h : I64 a) : IntKind.i64.wrap a = a := by
  obtain ⟨h1, h2⟩ := h
  unfold IntKind.wrap
  have hb : IntKind.i64.bits = 64 := rfl
  have hsg : IntKind.i64.signed = true := rfl
  simp only [hb, hsg, Bool.true_and, decide_eq_true_eq]
  split <;> omega
theorem wrapS (n : Nat) (h : n + 1 < 9223372036854775808) : IntKind.i64.wrap ((n : Int) + 1) = ((n + 1 : Nat) : Int) := by
  rw [wrapId ⟨by omega, by omega⟩]; omega
structure Pr where
  a : Int
  b : Int
deriving DecidableEq, Inhabited
namespace Pr
def enc (p : Pr) : List PV := [.int .i64 p.a, .int .i64 p.b]
theorem enc_len (p : Pr) : p.enc.length = 2 := rfl
theorem fw : (∀ p : Pr, p.enc.length = 2) ∧ (∀ p : Pr, p.enc[0]? = some (.int .i64 p.a)) ∧ (∀ p : Pr, p.enc[1]? = some (.int .i64 p.b)) ∧ (∀ p : Pr, p.enc.drop 1 = [.int .i64 p.b]) ∧ (∀ p : Pr, p.enc.take 2 = p.enc) ∧ (∀ (m : Nat) (p : Pr), PV.bdL m p.enc = true) :=
  ⟨fun _ => rfl, fun _ => rfl, fun _ => rfl, fun _ => rfl, fun _ => rfl, fun _ _ => rfl⟩
end Pr
def I1 (n : Int) : List PV := [.int .i64 n]
theorem I1_len (n : Int) : (I1 n).length = 1 := rfl
theorem I1_fw : (∀ n, (I1 n).length = 1) ∧ (∀ n, (I1 n)[0]? = some (.int .i64 n)) ∧ (∀ (m : Nat) n, PV.bdL m (I1 n) = true) := ⟨fun _ => rfl, fun _ => rfl, fun _ _ => rfl⟩
def S1 (s : List UInt8) : List PV := [.str s]
theorem S1_fw : (∀ n, (S1 n).length = 1) ∧ (∀ n, (S1 n)[0]? = some (.str n)) ∧ (∀ (m : Nat) n, PV.bdL m (S1 n) = true) := ⟨fun _ => rfl, fun _ => rfl, fun _ _ => rfl⟩
def U1 (n : Nat) : List PV := [.int .u64 (n : Int)]
theorem U1_fw : (∀ n, (U1 n).length = 1) ∧ (∀ n : Nat, (U1 n)[0]? = some (.int .u64 (n : Int))) ∧ (∀ (m : Nat) n, PV.bdL m (U1 n) = true) := ⟨fun _ => rfl, fun _ => rfl, fun _ _ => rfl⟩
def laC (ns : List (List UInt8)) (us : List Nat) : List PV := [.vec (ns.map S1) false, .vec (us.map U1) false]
structure So where
  v : Int
  p : Int
deriving DecidableEq, Inhabited
namespace So
def enc (x : So) : List PV := [.int .i64 x.v, .int .i64 x.p]
theorem enc_len (x : So) : x.enc.length = 2 := rfl
theorem fw : (∀ x : So, x.enc.length = 2) ∧ (∀ x : So, x.enc[0]? = some (.int .i64 x.v)) ∧ (∀ x : So, x.enc[1]? = some (.int .i64 x.p)) ∧ (∀ x : So, x.enc.drop 1 = [.int .i64 x.p]) ∧ (∀ x : So, x.enc.take 2 = x.enc) ∧ (∀ (m : Nat) (x : So), PV.bdL m x.enc = true) :=
  ⟨fun _ => rfl, fun _ => rfl, fun _ => rfl, fun _ => rfl, fun _ => rfl, fun _ _ => rfl⟩
end So
def B8 (n : Int) : List PV := [.int .u8 n]
theorem B8_fw : (∀ n, (B8 n).length = 1) ∧ (∀ n, (B8 n)[0]? = some (.int .u8 n)) ∧ (∀ (m : Nat) n, PV.bdL m (B8 n) = true) := ⟨fun _ => rfl, fun _ => rfl, fun _ _ => rfl⟩
end Go.Proofs.YteicbhkimepbaaaGreatDoor
namespace Go.Proofs.YteicbhkimepbaaaGreatDoor
set_option linter.unusedVariables false
set_option linter.unusedSimpArgs false
set_option maxRecDepth 100000
open Go.RowKit Fw
def vl (σ : Int → Nat) (a : Int) : Nat := if a < 0 then (-1 - a).toNat else σ a
def satP (r : Nat → Nat → Bool) (σ : Int → Nat) (p : Pr) : Prop := r (vl σ p.a) (vl σ p.b) = true
def PtsOk (n : Nat) (c : List Pr) : Prop := ∀ p ∈ c, (p.a < 0 → (-1 - p.a).toNat < n) ∧ (p.b < 0 → (-1 - p.b).toNat < n)
def SolS (n : Nat) (r : Nat → Nat → Bool) (c : List Pr) (σ : Int → Nat) : Prop := (∀ v, σ v < n) ∧ ∀ p ∈ c, satP r σ p
def Lows (n : Nat) (r : Nat → Nat → Bool) (c : List Pr) (σ : Int → Nat) : Prop := (∀ v, σ v < n) ∧ ∀ τ, SolS n r c τ → ∀ v, r (σ v) (τ v) = true
def upd (σ : Int → Nat) (b : Int) (j : Nat) : Int → Nat := fun v => if v = b then j else σ v
variable {n : Nat} {r : Nat → Nat → Bool} {c : List Pr} {σ τ : Int → Nat}
theorem vl_lt (hσ : ∀ v, σ v < n) {a : Int} (h : a < 0 → (-1 - a).toNat < n) : vl σ a < n := by
  unfold vl; split
  · exact h (by assumption)
  · exact hσ a
theorem low_vl (h : Ord n r) (hl : Lows n r c σ) (ht : SolS n r c τ) {a : Int} (ha : a < 0 → (-1 - a).toNat < n) : r (vl σ a) (vl τ a) = true := by
  unfold vl; split
  · exact h.refl _ (ha (by assumption))
  · exact hl.2 τ ht a
theorem low_bot (hb : ∀ v, σ v < n ∧ ∀ z, z < n → r (σ v) z = true) : Lows n r c σ :=
  ⟨fun v => (hb v).1, fun τ ht v => (hb v).2 _ (ht.1 v)⟩
theorem low_step (h : Ord n r) (hp : PtsOk n c) (hl : Lows n r c σ) {p : Pr} (hc : p ∈ c) (h0 : 0 ≤ p.b) {j : Nat} (hj : IsJ n r (vl σ p.a) (σ p.b) j) : Lows n r c (upd σ p.b j) := by
  refine ⟨fun v => ?_, fun τ ht v => ?_⟩
  · unfold upd; split
    · exact hj.1
    · exact hl.1 v
  · unfold upd; split
    · rename_i e
      subst e
      rw [hj.2 _ (ht.1 _), Bool.and_eq_true]
      refine ⟨?_, hl.2 τ ht _⟩
      have h1 := low_vl h hl ht (hp p hc).1
      have h2 : r (vl τ p.a) (vl τ p.b) = true := ht.2 p hc
      have e : vl τ p.b = τ p.b := by unfold vl; rw [if_neg (by omega)]
      rw [e] at h2
      exact h.trans _ _ _ (vl_lt hl.1 (hp p hc).1) (vl_lt ht.1 (hp p hc).1) (ht.1 _) h1 h2
    · exact hl.2 τ ht v
theorem low_fail (h : Ord n r) (hp : PtsOk n c) (hl : Lows n r c σ) {p : Pr} (hc : p ∈ c) (h0 : p.b < 0) (hn : r (vl σ p.a) (vl σ p.b) = false) : ∀ τ, ¬ SolS n r c τ := fun τ ht => by
  have h1 := low_vl h hl ht (hp p hc).1
  have h2 : r (vl τ p.a) (vl τ p.b) = true := ht.2 p hc
  have e : vl τ p.b = vl σ p.b := by unfold vl; rw [if_pos h0, if_pos h0]
  rw [e] at h2
  have := h.trans _ _ _ (vl_lt hl.1 (hp p hc).1) (vl_lt ht.1 (hp p hc).1) (vl_lt hl.1 (hp p hc).2) h1 h2
  rw [hn] at this; cases this
def rk (n : Nat) (r : Nat → Nat → Bool) (x : Nat) : Nat := ((List.range n).filter (r x)).length
theorem filter_lt {X : Type} {p q : X → Bool} : ∀ l : List X, (∀ x ∈ l, p x = true → q x = true) → (l.filter p).length ≤ (l.filter q).length ∧ ((∃ x ∈ l, q x = true ∧ p x = false) → (l.filter p).length < (l.filter q).length)
  | [], _ => ⟨Nat.le_refl _, fun ⟨_, h, _⟩ => by cases h⟩
  | x :: l, h => by
    obtain ⟨i1, i2⟩ := filter_lt l fun y hy => h y (by simp [hy])
    have hx := h x (by simp)
    cases hp : p x <;> cases hq : q x
    · simp only [List.filter_cons, hp, hq, Bool.false_eq_true, ↓reduceIte]
      refine ⟨i1, fun ⟨y, hy, e1, e2⟩ => i2 ?_⟩
      rcases List.mem_cons.1 hy with rfl | hy
      · rw [hq] at e1; cases e1
      · exact ⟨y, hy, e1, e2⟩
    · simp only [List.filter_cons, hp, hq, Bool.false_eq_true, ↓reduceIte, List.length_cons]
      exact ⟨by omega, fun _ => by omega⟩
    · rw [hx hp] at hq; cases hq
    · simp only [List.filter_cons, hp, hq, ↓reduceIte, List.length_cons]
      refine ⟨by omega, fun ⟨y, hy, e1, e2⟩ => ?_⟩
      rcases List.mem_cons.1 hy with rfl | hy
      · rw [hp] at e2; cases e2
      · have := i2 ⟨y, hy, e1, e2⟩; omega
theorem rk_lt (h : Ord n r) {x y : Nat} (hx : x < n) (hy : y < n) (hxy : r x y = true) (hne : r y x = false) : rk n r y < rk n r x :=
  (filter_lt _ fun z hz hyz => h.trans x y z hx hy (List.mem_range.1 hz) hxy hyz).2 ⟨x, List.mem_range.2 hx, h.refl x hx, hne⟩
theorem rk_le (n : Nat) (r : Nat → Nat → Bool) (x : Nat) : rk n r x ≤ n := by
  unfold rk
  exact Nat.le_trans (List.length_filter_le _ _) (by simp)
def rkS (n : Nat) (r : Nat → Nat → Bool) (vs : List Int) (σ : Int → Nat) : Nat := (vs.map fun v => rk n r (σ v)).sum
theorem rkS_upd {b : Int} {j : Nat} (h : rk n r j < rk n r (σ b)) : ∀ vs : List Int, rkS n r vs (upd σ b j) ≤ rkS n r vs σ ∧ (b ∈ vs → rkS n r vs (upd σ b j) < rkS n r vs σ)
  | [] => ⟨Nat.le_refl _, fun h => by cases h⟩
  | v :: vs => by
    obtain ⟨i1, i2⟩ := rkS_upd h vs
    unfold rkS at *
    simp only [List.map_cons, List.sum_cons]
    by_cases e : v = b
    · subst e
      have : upd σ v j v = j := by unfold upd; rw [if_pos rfl]
      rw [this]
      exact ⟨by omega, fun _ => by omega⟩
    · have : upd σ b j v = σ v := by unfold upd; rw [if_neg e]
      rw [this]
      refine ⟨by omega, fun hm => ?_⟩
      rcases List.mem_cons.1 hm with rfl | hm
      · exact absurd rfl e
      · have := i2 hm; omega
theorem step_rise (h : Ord n r) (hσ : ∀ v, σ v < n) {x : Nat} {b : Int} {j : Nat} (hx : x < n) (hn : r x (σ b) = false) (hj : IsJ n r x (σ b) j) : rk n r j < rk n r (σ b) := by
  refine rk_lt h (hσ b) hj.1 (hj.le2 h) ?_
  cases e : r j (σ b)
  · rfl
  · rw [hj.2 _ (hσ b), hn] at e; cases e
theorem least_step (hl : Lows n r c σ) (h : Ord n r) (hp : PtsOk n c) (hs : ∀ p ∈ c, 0 ≤ p.b → r (vl σ p.a) (σ p.b) = false → (∃ σ, SolS n r c σ ∧ Lows n r c σ) ∨ ∀ τ, ¬ SolS n r c τ) : (∃ σ, SolS n r c σ ∧ Lows n r c σ) ∨ ∀ τ, ¬ SolS n r c τ := by
  by_cases ha : ∀ p ∈ c, satP r σ p
  · exact .inl ⟨σ, ⟨hl.1, ha⟩, hl⟩
  · simp only [Classical.not_forall] at ha
    obtain ⟨p, hc, hn⟩ := ha
    have hn' : r (vl σ p.a) (vl σ p.b) = false := by unfold satP at hn; simpa using hn
    by_cases h0 : p.b < 0
    · exact .inr (low_fail h hp hl hc h0 hn')
    · have e : vl σ p.b = σ p.b := by unfold vl; rw [if_neg h0]
      rw [e] at hn'
      exact hs p hc (by omega) hn'
theorem least_ex (h : Latt n r) (hp : PtsOk n c) {vs : List Int} (hv : ∀ p ∈ c, 0 ≤ p.b → p.b ∈ vs) (k : Nat) : ∀ σ : Int → Nat, rkS n r vs σ ≤ k → Lows n r c σ → (∃ σ, SolS n r c σ ∧ Lows n r c σ) ∨ ∀ τ, ¬ SolS n r c τ := by
  induction k with
  | zero =>
    refine fun σ hk hl => least_step hl h.toOrd hp fun p hc h0 hn => ?_
    obtain ⟨j, _, hj⟩ := h.join (vl_lt hl.1 (hp p hc).1) (hl.1 p.b)
    have := (rkS_upd (step_rise h.toOrd hl.1 (vl_lt hl.1 (hp p hc).1) hn hj) vs).2 (hv p hc h0)
    omega
  | succ k ih =>
    refine fun σ hk hl => least_step hl h.toOrd hp fun p hc h0 hn => ?_
    obtain ⟨j, _, hj⟩ := h.join (vl_lt hl.1 (hp p hc).1) (hl.1 p.b)
    have := (rkS_upd (step_rise h.toOrd hl.1 (vl_lt hl.1 (hp p hc).1) hn hj) vs).2 (hv p hc h0)
    exact ih (upd σ p.b j) (by omega) (low_step h.toOrd hp hl hc h0 hj)
theorem least_uniq (h : Ord n r) (h1 : SolS n r c σ) (h2 : Lows n r c σ) (h3 : SolS n r c τ) (h4 : Lows n r c τ) : σ = τ := by
  funext v
  exact h.anti _ _ (h1.1 v) (h3.1 v) (h2.2 τ h3 v) (h4.2 σ h1 v)
end Go.Proofs.YteicbhkimepbaaaGreatDoor
namespace Go.Proofs.YteicbhkimepbaaaGreatDoor
set_option linter.unusedVariables false
set_option linter.unusedSimpArgs false
set_option maxRecDepth 100000
open Go
def ofB : List Nat → Nat
  | [] => 0
  | b :: l => ofB l * 256 + b
theorem ofB_lt : ∀ l : List Nat, (∀ b ∈ l, b < 256) → ofB l < 256 ^ l.length
  | [], _ => by simp [ofB]
  | b :: l, h => by
    have h1 := ofB_lt l fun x hx => h x (by simp [hx])
    have h2 := h b (by simp)
    rw [List.length_cons, Nat.pow_succ]
    unfold ofB; omega
theorem ofB_ex : ∀ (n x : Nat), x < 256 ^ n → ∃ l : List Nat, l.length = n ∧ (∀ b ∈ l, b < 256) ∧ ofB l = x
  | 0, x, h => ⟨[], rfl, (fun b hb => by cases hb), (by simp at h; simp [ofB, h])⟩
  | n + 1, x, h => by
    obtain ⟨l, h1, h2, h3⟩ := ofB_ex n (x / 256) (by rw [Nat.pow_succ] at h; omega)
    refine ⟨x % 256 :: l, by simp [h1], fun b hb => ?_, by unfold ofB; rw [h3]; omega⟩
    rcases List.mem_cons.1 hb with rfl | hb
    · omega
    · exact h2 b hb
theorem and_split (a c : Nat) {b d : Nat} (hb : b < 256) (hd : d < 256) : (a * 256 + b) &&& (c * 256 + d) = (a &&& c) * 256 + (b &&& d) := by
  have e : ∀ u v : Nat, u * 256 + v = 2 ^ 8 * u + v := fun u v => by omega
  have hbd : b &&& d < 2 ^ 8 := Nat.lt_of_le_of_lt Nat.and_le_left hb
  refine Nat.eq_of_testBit_eq fun j => ?_
  rw [e, e, e, Nat.testBit_and, Nat.testBit_two_pow_mul_add _ hb, Nat.testBit_two_pow_mul_add _ hd, Nat.testBit_two_pow_mul_add _ hbd]
  split
  · rw [Nat.testBit_and]
  · rw [Nat.testBit_and]
def g1 (b : Nat) : Nat := (b / 2 &&& 85) + (b &&& 85)
def g2 (b : Nat) : Nat := (b / 4 &&& 51) + (b &&& 51)
def g3 (b : Nat) : Nat := (b / 16 + b) &&& 15
theorem fin1 : ∀ e : Fin 2, ∀ b : Fin 256, (e.val * 128 + b.val / 2) &&& 85 = b.val / 2 &&& 85 := by decide +kernel
theorem fin2 : ∀ e : Fin 4, ∀ b : Fin 256, (e.val * 64 + b.val / 4) &&& 51 = b.val / 4 &&& 51 := by decide +kernel
theorem fin3 : ∀ e : Fin 5, ∀ b : Fin 69, (e.val * 16 + (b.val / 16 + b.val)) &&& 15 = (b.val / 16 + b.val) &&& 15 := by decide +kernel
theorem fing : ∀ b : Fin 256, g1 b.val < 256 ∧ g2 (g1 b.val) ≤ 68 ∧ g2 (g1 b.val) % 16 ≤ 4 ∧ g3 (g2 (g1 b.val)) = ((List.range 8).filter b.val.testBit).length := by decide +kernel
theorem f1_ofB : ∀ l : List Nat, (∀ b ∈ l, b < 256) → (ofB l / 2 &&& ofB (List.replicate l.length 85)) + (ofB l &&& ofB (List.replicate l.length 85)) = ofB (l.map g1)
  | [], _ => rfl
  | b :: l, h => by
    have ih := f1_ofB l fun x hx => h x (by simp [hx])
    have hb := h b (by simp)
    simp only [List.length_cons, List.replicate_succ, List.map_cons, ofB]
    have e : (ofB l * 256 + b) / 2 = ofB l / 2 * 256 + (ofB l % 2 * 128 + b / 2) := by omega
    rw [e, and_split _ _ (by omega) (by decide), and_split _ _ hb (by decide), fin1 ⟨ofB l % 2, by omega⟩ ⟨b, hb⟩, ← ih]
    show _ = _ * 256 + ((b / 2 &&& 85) + (b &&& 85))
    simp only; omega
theorem f2_ofB : ∀ l : List Nat, (∀ b ∈ l, b < 256) → (ofB l / 4 &&& ofB (List.replicate l.length 51)) + (ofB l &&& ofB (List.replicate l.length 51)) = ofB (l.map g2)
  | [], _ => rfl
  | b :: l, h => by
    have ih := f2_ofB l fun x hx => h x (by simp [hx])
    have hb := h b (by simp)
    simp only [List.length_cons, List.replicate_succ, List.map_cons, ofB]
    have e : (ofB l * 256 + b) / 4 = ofB l / 4 * 256 + (ofB l % 4 * 64 + b / 4) := by omega
    rw [e, and_split _ _ (by omega) (by decide), and_split _ _ hb (by decide), fin2 ⟨ofB l % 4, by omega⟩ ⟨b, hb⟩, ← ih]
    show _ = _ * 256 + ((b / 4 &&& 51) + (b &&& 51))
    simp only; omega
theorem low_ofB : ∀ l : List Nat, (∀ b ∈ l, b ≤ 68 ∧ b % 16 ≤ 4) → ofB l % 16 ≤ 4
  | [], _ => by simp [ofB]
  | b :: l, h => by
    have := (h b (by simp)).2
    unfold ofB; omega
theorem f3_ofB : ∀ l : List Nat, (∀ b ∈ l, b ≤ 68 ∧ b % 16 ≤ 4) → (ofB l / 16 + ofB l) &&& ofB (List.replicate l.length 15) = ofB (l.map g3)
  | [], _ => rfl
  | b :: l, h => by
    have ih := f3_ofB l fun x hx => h x (by simp [hx])
    have hlow := low_ofB l fun x hx => h x (by simp [hx])
    have hb := (h b (by simp)).1
    simp only [List.length_cons, List.replicate_succ, List.map_cons, ofB]
    have e : (ofB l * 256 + b) / 16 + (ofB l * 256 + b) = (ofB l / 16 + ofB l) * 256 + (ofB l % 16 * 16 + (b / 16 + b)) := by omega
    rw [e, and_split _ _ (by omega) (by decide), fin3 ⟨ofB l % 16, by omega⟩ ⟨b, by omega⟩, ← ih]; rfl
theorem cnt_split (h b n : Nat) (hb : b < 256) : ((List.range (8 + n)).filter (h * 256 + b).testBit).length = ((List.range 8).filter b.testBit).length + ((List.range n).filter h.testBit).length := by
  have e : h * 256 + b = 2 ^ 8 * h + b := by omega
  have hbit : ∀ j, (h * 256 + b).testBit j = if j < 8 then b.testBit j else h.testBit (j - 8) := fun j => by rw [e, Nat.testBit_two_pow_mul_add _ hb]
  rw [List.range_add, List.filter_append, List.length_append]
  congr 1
  · congr 1
    refine List.filter_congr fun j hj => ?_
    rw [hbit, if_pos (List.mem_range.1 hj)]
  · rw [List.filter_map, List.length_map]
    congr 1
    refine List.filter_congr fun j _ => ?_
    simp only [Function.comp]
    rw [hbit, if_neg (by omega), Nat.add_sub_cancel_left]
theorem cnt_ofB : ∀ l : List Nat, (∀ b ∈ l, b < 256) → ((List.range (8 * l.length)).filter (ofB l).testBit).length = (l.map fun b => ((List.range 8).filter b.testBit).length).sum
  | [], _ => rfl
  | b :: l, h => by
    have ih := cnt_ofB l fun x hx => h x (by simp [hx])
    rw [List.length_cons, show 8 * (l.length + 1) = 8 + 8 * l.length by omega]
    unfold ofB
    rw [cnt_split _ _ _ (h b (by simp)), ih, List.map_cons, List.sum_cons]
theorem div_ofB {b : Nat} {l : List Nat} (hb : b < 256) : ofB (b :: l) / 256 = ofB l := by show (ofB l * 256 + b) / 256 = ofB l; omega
theorem lin1 (c0 c1 c2 c3 c4 c5 c6 c7 : Nat) : ofB [c0, c1, c2, c3, c4, c5, c6, c7] + ofB [c1, c2, c3, c4, c5, c6, c7] = ofB [c0 + c1, c1 + c2, c2 + c3, c3 + c4, c4 + c5, c5 + c6, c6 + c7, c7] := by
  simp only [ofB]; omega
theorem lin2 (c0 c1 c2 c3 c4 c5 c6 c7 : Nat) : ofB [c0, c1, c2, c3, c4, c5, c6, c7] + ofB [c2, c3, c4, c5, c6, c7] = ofB [c0 + c2, c1 + c3, c2 + c4, c3 + c5, c4 + c6, c5 + c7, c6, c7] := by
  simp only [ofB]; omega
theorem lin3 (c0 c1 c2 c3 c4 c5 c6 c7 : Nat) : ofB [c0, c1, c2, c3, c4, c5, c6, c7] + ofB [c4, c5, c6, c7] = ofB [c0 + c4, c1 + c5, c2 + c6, c3 + c7, c4, c5, c6, c7] := by
  simp only [ofB]; omega
theorem div4 (y : Nat) : y / 4294967296 = y / 256 / 256 / 256 / 256 := by omega
theorem div2 (y : Nat) : y / 65536 = y / 256 / 256 := by omega
theorem ofB_lt8 {l : List Nat} (h : l.length = 8) (hb : ∀ b ∈ l, b < 256) : ofB l < 18446744073709551616 := by
  have := ofB_lt l hb
  rw [h] at this; exact this
theorem mod_ofB {b : Nat} {l : List Nat} (hb : b < 128) : ofB (b :: l) % 128 = b := by show (ofB l * 256 + b) % 128 = b; omega
theorem sum8 (c0 c1 c2 c3 c4 c5 c6 c7 : Nat) (h0 : c0 ≤ 8) (h1 : c1 ≤ 8) (h2 : c2 ≤ 8) (h3 : c3 ≤ 8) (h4 : c4 ≤ 8) (h5 : c5 ≤ 8) (h6 : c6 ≤ 8) (h7 : c7 ≤ 8) (y : Nat) (hy : y = ofB [c0, c1, c2, c3, c4, c5, c6, c7]) :
    ∃ y1 y2 y3, y1 = y + y / 256 ∧ y2 = y1 + y1 / 65536 ∧ y3 = y2 + y2 / 4294967296 ∧
    y3 < 18446744073709551616 ∧ y2 < 18446744073709551616 ∧ y1 < 18446744073709551616 ∧ y3 % 128 = (c0 + c1 + (c2 + c3)) + (c4 + c5 + (c6 + c7)) := by
  subst hy
  refine ⟨_, _, _, rfl, rfl, rfl, ?_⟩
  rw [div_ofB (by omega), lin1, div2, div_ofB (by omega), div_ofB (by omega), lin2, div4, div_ofB (by omega), div_ofB (by omega), div_ofB (by omega), div_ofB (by omega), lin3]
  refine ⟨ofB_lt8 rfl fun b hb => ?_, ofB_lt8 rfl fun b hb => ?_, ofB_lt8 rfl fun b hb => ?_, mod_ofB (by omega)⟩
  all_goals
    simp only [List.mem_cons, List.not_mem_nil, or_false] at hb
    omega
theorem ofB_le68 : ∀ {l : List Nat}, l.length = 8 → (∀ b ∈ l, b ≤ 68) → ofB l < 5000000000000000000
  | [a0, a1, a2, a3, a4, a5, a6, a7], _, h => by
    have h0 := h a0 (by simp); have h1 := h a1 (by simp); have h2 := h a2 (by simp); have h3 := h a3 (by simp)
    have h4 := h a4 (by simp); have h5 := h a5 (by simp); have h6 := h a6 (by simp); have h7 := h a7 (by simp)
    clear h
    simp only [ofB]; omega
theorem add16 {x : Nat} (h : x < 5000000000000000000) : x / 16 + x < 18446744073709551616 := by omega
theorem pop_all (x : Nat) (hx : x < 18446744073709551616) :
    let m1 := 6148914691236517205
    let m2 := 3689348814741910323
    let m3 := 1085102592571150095
    let x1 := (x / 2 &&& m1) + (x &&& m1)
    let x2 := (x1 / 4 &&& m2) + (x1 &&& m2)
    let x3 := (x2 / 16 + x2) &&& m3
    let y1 := x3 + x3 / 256
    let y2 := y1 + y1 / 65536
    let y3 := y2 + y2 / 4294967296
    x1 < 18446744073709551616 ∧ x2 < 18446744073709551616 ∧ x2 / 16 + x2 < 18446744073709551616 ∧ y1 < 18446744073709551616 ∧ y2 < 18446744073709551616 ∧ y3 < 18446744073709551616 ∧ y3 &&& 127 = (bitsOf x).length := by
  intro m1 m2 m3 x1 x2 x3 y1 y2 y3
  obtain ⟨l, hl, hlb, rfl⟩ := ofB_ex 8 x (by simpa using hx)
  have hg : ∀ b ∈ l, g1 b < 256 ∧ g2 (g1 b) ≤ 68 ∧ g2 (g1 b) % 16 ≤ 4 ∧ g3 (g2 (g1 b)) = ((List.range 8).filter b.testBit).length := fun b hb => fing ⟨b, hlb b hb⟩
  have k1 : x1 = ofB (l.map g1) := by
    have := f1_ofB l hlb
    rw [hl] at this; exact this
  have b1 : ∀ b ∈ l.map g1, b < 256 := fun b hb => by
    obtain ⟨c, hc, rfl⟩ := List.mem_map.1 hb
    exact (hg c hc).1
  have k2 : x2 = ofB ((l.map g1).map g2) := by
    have := f2_ofB (l.map g1) b1
    rw [List.length_map, hl, ← k1] at this; exact this
  have b2 : ∀ b ∈ (l.map g1).map g2, b ≤ 68 ∧ b % 16 ≤ 4 := fun b hb => by
    obtain ⟨c, hc, rfl⟩ := List.mem_map.1 hb
    obtain ⟨d, hd, rfl⟩ := List.mem_map.1 hc
    exact ⟨(hg d hd).2.1, (hg d hd).2.2.1⟩
  have k3 : x3 = ofB (((l.map g1).map g2).map g3) := by
    have := f3_ofB _ b2
    rw [List.length_map, List.length_map, hl, ← k2] at this; exact this
  have q1 : x1 < 256 ^ 8 := by
    have := ofB_lt _ b1
    rw [List.length_map, hl, ← k1] at this; exact this
  have hsum := cnt_ofB l hlb
  rw [hl] at hsum
  have hcnt : (bitsOf (ofB l)).length = (l.map fun b => ((List.range 8).filter b.testBit).length).sum := hsum
  have hm : ((l.map g1).map g2).map g3 = l.map fun b => ((List.range 8).filter b.testBit).length := by
    rw [List.map_map, List.map_map]
    exact List.map_congr_left fun b hb => (hg b hb).2.2.2
  rw [hm] at k3
  have hle : ∀ c ∈ (l.map fun b => ((List.range 8).filter b.testBit).length), c ≤ 8 := fun c hc => by
    obtain ⟨b, _, rfl⟩ := List.mem_map.1 hc
    exact Nat.le_trans (List.length_filter_le _ _) (by simp)
  have hml : (l.map fun b => ((List.range 8).filter b.testBit).length).length = 8 := by rw [List.length_map, hl]
  have hl2 : ((l.map g1).map g2).length = 8 := by rw [List.length_map, List.length_map, hl]
  have q2 : x2 < 5000000000000000000 := by
    generalize (l.map g1).map g2 = z at k2 b2 hl2
    match z, hl2 with
    | [a0, a1, a2, a3, a4, a5, a6, a7], _ =>
      rw [k2]
      exact ofB_le68 rfl fun b hb => (b2 b hb).1
  generalize (l.map fun b => ((List.range 8).filter b.testBit).length) = z at k3 hle hml hcnt
  match z, hml with
  | [a0, a1, a2, a3, a4, a5, a6, a7], _ =>
    obtain ⟨z1, z2, z3, e1, e2, e3, r1, r2, r3, r4⟩ := sum8 a0 a1 a2 a3 a4 a5 a6 a7 (hle _ (by simp)) (hle _ (by simp)) (hle _ (by simp)) (hle _ (by simp)) (hle _ (by simp)) (hle _ (by simp)) (hle _ (by simp)) (hle _ (by simp)) x3 k3
    have f1 : y1 = z1 := e1.symm
    have f2 : y2 = z2 := by rw [e2, ← f1]
    have f3 : y3 = z3 := by rw [e3, ← f2]
    refine ⟨by simpa using q1, Nat.lt_trans q2 (by decide), add16 q2, by rw [f1]; exact r3, by rw [f2]; exact r2, by rw [f3]; exact r1, ?_⟩
    rw [f3]
    rw [hcnt, show (127 : Nat) = 2 ^ 7 - 1 from rfl, Nat.and_two_pow_sub_one_eq_mod]
    simp only [List.sum_cons, List.sum_nil]
    refine r4.trans ?_
    simp only [Nat.add_zero, Nat.add_assoc]
end Go.Proofs.YteicbhkimepbaaaGreatDoor
namespace Go.Proofs.YteicbhkimepbaaaGreatDoor
set_option linter.unusedVariables false
set_option linter.unusedSimpArgs false
set_option maxRecDepth 100000
open Go.RowKit Fw
theorem en14 : Enters Tryz.prog 14 := enters_of Tryz.func14 rfl rfl
theorem en17 : Enters Tryz.prog 17 := enters_of Tryz.func17 rfl rfl
theorem en18 : Enters Tryz.prog 18 := enters_of Tryz.func18 rfl rfl
theorem en19 : Enters Tryz.prog 19 := enters_of Tryz.func19 rfl rfl
theorem en21 : Enters Tryz.prog 21 := enters_of Tryz.func21 rfl rfl
theorem en40 : Enters Tryz.prog 40 := enters_of Tryz.func40 rfl rfl
theorem en43 : Enters Tryz.prog 43 := enters_of Tryz.func43 rfl rfl
theorem en44 : Enters Tryz.prog 44 := enters_of Tryz.func44 rfl rfl
theorem en47 : Enters Tryz.prog 47 := enters_of Tryz.func47 rfl rfl
theorem en50 : Enters Tryz.prog 50 := enters_of Tryz.func50 rfl rfl
theorem en51 : Enters Tryz.prog 51 := enters_of Tryz.func51 rfl rfl
theorem en52 : Enters Tryz.prog 52 := enters_of Tryz.func52 rfl rfl
theorem en53 : Enters Tryz.prog 53 := enters_of Tryz.func53 rfl rfl
theorem en54 : Enters Tryz.prog 54 := enters_of Tryz.func54 rfl rfl
theorem en56 : Enters Tryz.prog 56 := enters_of Tryz.func56 rfl rfl
theorem en57 : Enters Tryz.prog 57 := enters_of Tryz.func57 rfl rfl
theorem en58 : Enters Tryz.prog 58 := enters_of Tryz.func58 rfl rfl
theorem en59 : Enters Tryz.prog 59 := enters_of Tryz.func59 rfl rfl
theorem en60 : Enters Tryz.prog 60 := enters_of Tryz.func60 rfl rfl
theorem en61 : Enters Tryz.prog 61 := enters_of Tryz.func61 rfl rfl
theorem en62 : Enters Tryz.prog 62 := enters_of Tryz.func62 rfl rfl
theorem en63 : Enters Tryz.prog 63 := enters_of Tryz.func63 rfl rfl
theorem en64 : Enters Tryz.prog 64 := enters_of Tryz.func64 rfl rfl
theorem en65 : Enters Tryz.prog 65 := enters_of Tryz.func65 rfl rfl
theorem en66 : Enters Tryz.prog 66 := enters_of Tryz.func66 rfl rfl
theorem en67 : Enters Tryz.prog 67 := enters_of Tryz.func67 rfl rfl
theorem en68 : Enters Tryz.prog 68 := enters_of Tryz.func68 rfl rfl
theorem en69 : Enters Tryz.prog 69 := enters_of Tryz.func69 rfl rfl
theorem en70 : Enters Tryz.prog 70 := enters_of Tryz.func70 rfl rfl
theorem en71 : Enters Tryz.prog 71 := enters_of Tryz.func71 rfl rfl
theorem en72 : Enters Tryz.prog 72 := enters_of Tryz.func72 rfl rfl
theorem en78 : Enters Tryz.prog 78 := enters_of Tryz.func78 rfl rfl
theorem en79 : Enters Tryz.prog 79 := enters_of Tryz.func79 rfl rfl
theorem en87 : Enters Tryz.prog 87 := enters_of Tryz.func87 rfl rfl
theorem en88 : Enters Tryz.prog 88 := enters_of Tryz.func88 rfl rfl
theorem en94 : Enters Tryz.prog 94 := enters_of Tryz.func94 rfl rfl
theorem en95 : Enters Tryz.prog 95 := enters_of Tryz.func95 rfl rfl
theorem en96 : Enters Tryz.prog 96 := enters_of Tryz.func96 rfl rfl
theorem en97 : Enters Tryz.prog 97 := enters_of Tryz.func97 rfl rfl
theorem en98 : Enters Tryz.prog 98 := enters_of Tryz.func98 rfl rfl
theorem en99 : Enters Tryz.prog 99 := enters_of Tryz.func99 rfl rfl
theorem en100 : Enters Tryz.prog 100 := enters_of Tryz.func100 rfl rfl
theorem en101 : Enters Tryz.prog 101 := enters_of Tryz.func101 rfl rfl
theorem en102 : Enters Tryz.prog 102 := enters_of Tryz.func102 rfl rfl
theorem en103 : Enters Tryz.prog 103 := enters_of Tryz.func103 rfl rfl
theorem en104 : Enters Tryz.prog 104 := enters_of Tryz.func104 rfl rfl
theorem en105 : Enters Tryz.prog 105 := enters_of Tryz.func105 rfl rfl
theorem en106 : Enters Tryz.prog 106 := enters_of Tryz.func106 rfl rfl
theorem en107 : Enters Tryz.prog 107 := enters_of Tryz.func107 rfl rfl
theorem en108 : Enters Tryz.prog 108 := enters_of Tryz.func108 rfl rfl
theorem en109 : Enters Tryz.prog 109 := enters_of Tryz.func109 rfl rfl
theorem en110 : Enters Tryz.prog 110 := enters_of Tryz.func110 rfl rfl
theorem en111 : Enters Tryz.prog 111 := enters_of Tryz.func111 rfl rfl
theorem en112 : Enters Tryz.prog 112 := enters_of Tryz.func112 rfl rfl
theorem en113 : Enters Tryz.prog 113 := enters_of Tryz.func113 rfl rfl
theorem en115 : Enters Tryz.prog 115 := enters_of Tryz.func115 rfl rfl
theorem en116 : Enters Tryz.prog 116 := enters_of Tryz.func116 rfl rfl
theorem en117 : Enters Tryz.prog 117 := enters_of Tryz.func117 rfl rfl
theorem en118 : Enters Tryz.prog 118 := enters_of Tryz.func118 rfl rfl
theorem en119 : Enters Tryz.prog 119 := enters_of Tryz.func119 rfl rfl
theorem en122 : Enters Tryz.prog 122 := enters_of Tryz.func122 rfl rfl
theorem en123 : Enters Tryz.prog 123 := enters_of Tryz.func123 rfl rfl
theorem en128 : Enters Tryz.prog 128 := enters_of Tryz.func128 rfl rfl
theorem en129 : Enters Tryz.prog 129 := enters_of Tryz.func129 rfl rfl
theorem en130 : Enters Tryz.prog 130 := enters_of Tryz.func130 rfl rfl
theorem en131 : Enters Tryz.prog 131 := enters_of Tryz.func131 rfl rfl
theorem en132 : Enters Tryz.prog 132 := enters_of Tryz.func132 rfl rfl
theorem en133 : Enters Tryz.prog 133 := enters_of Tryz.func133 rfl rfl
theorem en134 : Enters Tryz.prog 134 := enters_of Tryz.func134 rfl rfl
theorem en147 : Enters Tryz.prog 147 := enters_of Tryz.func147 rfl rfl
theorem en148 : Enters Tryz.prog 148 := enters_of Tryz.func148 rfl rfl
theorem en149 : Enters Tryz.prog 149 := enters_of Tryz.func149 rfl rfl
theorem ar186 : arOf Tryz.prog 186 = some (64, 1) := by kernel_rfl
theorem el22 : elOf Tryz.prog 22 = some (1, 16) := by kernel_rfl
theorem el23 : elOf Tryz.prog 23 = some (1, 8) := by kernel_rfl
theorem el26 : elOf Tryz.prog 26 = some (2, 16) := by kernel_rfl
theorem el27 : elOf Tryz.prog 27 = some (2, 16) := by kernel_rfl
theorem el32 : elOf Tryz.prog 32 = some (2, 16) := by kernel_rfl
theorem el36 : elOf Tryz.prog 36 = some (2, 16) := by kernel_rfl
theorem el49 : elOf Tryz.prog 49 = some (1, 8) := by kernel_rfl
theorem el59 : elOf Tryz.prog 59 = some (1, 8) := by kernel_rfl
theorem el62 : elOf Tryz.prog 62 = some (2, 48) := by kernel_rfl
theorem el76 : elOf Tryz.prog 76 = some (1, 1) := by kernel_rfl
theorem el186 : elOf Tryz.prog 186 = none := by kernel_rfl
theorem eq41 : eqOf Tryz.prog 41 = some [(0, 0), (1, 0)] := by kernel_rfl
theorem eq70 : eqOf Tryz.prog 70 = some [(0, 0), (1, 0)] := by kernel_rfl
theorem eq86 : eqOf Tryz.prog 86 = some [(0, 0), (1, 0)] := by kernel_rfl
theorem fl25_0 : fldOf Tryz.prog 25 0 = some (0, 1, false) := by kernel_rfl
theorem fl25_1 : fldOf Tryz.prog 25 1 = some (1, 1, false) := by kernel_rfl
theorem fl30_0 : fldOf Tryz.prog 30 0 = some (0, 1, false) := by kernel_rfl
theorem fl30_1 : fldOf Tryz.prog 30 1 = some (1, 1, false) := by kernel_rfl
theorem fl41_0 : fldOf Tryz.prog 41 0 = some (0, 1, false) := by kernel_rfl
theorem fl41_1 : fldOf Tryz.prog 41 1 = some (1, 1, false) := by kernel_rfl
theorem fl70_0 : fldOf Tryz.prog 70 0 = some (0, 1, false) := by kernel_rfl
theorem fl70_1 : fldOf Tryz.prog 70 1 = some (1, 1, false) := by kernel_rfl
theorem fl82_0 : fldOf Tryz.prog 82 0 = some (0, 1, false) := by kernel_rfl
theorem fl82_1 : fldOf Tryz.prog 82 1 = some (1, 1, false) := by kernel_rfl
theorem fl86_0 : fldOf Tryz.prog 86 0 = some (0, 1, false) := by kernel_rfl
theorem fl86_1 : fldOf Tryz.prog 86 1 = some (1, 1, false) := by kernel_rfl
theorem fl89_0 : fldOf Tryz.prog 89 0 = some (0, 2, true) := by kernel_rfl
theorem fl89_1 : fldOf Tryz.prog 89 1 = some (2, 1, false) := by kernel_rfl
theorem pl25 : plOf Tryz.prog 25 = some [(0, 1), (1, 1)] := by kernel_rfl
theorem pl30 : plOf Tryz.prog 30 = some [(0, 1), (1, 1)] := by kernel_rfl
theorem pl41 : plOf Tryz.prog 41 = some [(0, 1), (1, 1)] := by kernel_rfl
theorem pl70 : plOf Tryz.prog 70 = some [(0, 1), (1, 1)] := by kernel_rfl
theorem pl82 : plOf Tryz.prog 82 = some [(0, 1), (1, 1)] := by kernel_rfl
theorem pl86 : plOf Tryz.prog 86 = some [(0, 1), (1, 1)] := by kernel_rfl
theorem pl89 : plOf Tryz.prog 89 = some [(0, 2), (2, 1)] := by kernel_rfl
theorem ti3 : tiOf Tryz.prog 3 = some ⟨1, 8, false, [.int .i64 0]⟩ := by kernel_rfl
theorem ti4 : tiOf Tryz.prog 4 = some ⟨1, 1, false, [.bool false]⟩ := by kernel_rfl
theorem ti5 : tiOf Tryz.prog 5 = some ⟨1, 1, false, [.int .u8 0]⟩ := by kernel_rfl
theorem ti9 : tiOf Tryz.prog 9 = some ⟨1, 16, false, [.str []]⟩ := by kernel_rfl
theorem ti22 : tiOf Tryz.prog 22 = some ⟨1, 24, false, [.vec [] true]⟩ := by kernel_rfl
theorem ti23 : tiOf Tryz.prog 23 = some ⟨1, 24, false, [.vec [] true]⟩ := by kernel_rfl
theorem ti25 : tiOf Tryz.prog 25 = some ⟨2, 48, true, [.vec [] true, .vec [] true]⟩ := by kernel_rfl
theorem ti26 : tiOf Tryz.prog 26 = some ⟨1, 24, false, [.vec [] true]⟩ := by kernel_rfl
theorem ti27 : tiOf Tryz.prog 27 = some ⟨1, 24, false, [.vec [] true]⟩ := by kernel_rfl
theorem ti28 : tiOf Tryz.prog 28 = some ⟨1, 8, false, [.int .i64 0]⟩ := by kernel_rfl
theorem ti30 : tiOf Tryz.prog 30 = some ⟨2, 48, true, [.vec [] true, .vec [] true]⟩ := by kernel_rfl
theorem ti41 : tiOf Tryz.prog 41 = some ⟨2, 16, true, [.int .i64 0, .int .i64 0]⟩ := by kernel_rfl
theorem ti49 : tiOf Tryz.prog 49 = some ⟨1, 24, false, [.vec [] true]⟩ := by kernel_rfl
theorem ti70 : tiOf Tryz.prog 70 = some ⟨2, 16, true, [.int .i64 0, .int .i64 0]⟩ := by kernel_rfl
theorem ti82 : tiOf Tryz.prog 82 = some ⟨2, 16, true, [.int .i64 0, .int .i64 0]⟩ := by kernel_rfl
theorem ti86 : tiOf Tryz.prog 86 = some ⟨2, 16, true, [.int .i64 0, .int .i64 0]⟩ := by kernel_rfl
theorem ti87 : tiOf Tryz.prog 87 = some ⟨1, 8, false, [.nilm]⟩ := by kernel_rfl
theorem ti89 : tiOf Tryz.prog 89 = some ⟨3, 56, true, [.vec [] true, .vec [] true, .nilm]⟩ := by kernel_rfl
theorem ti91 : tiOf Tryz.prog 91 = some ⟨1, 8, false, [.nilm]⟩ := by kernel_rfl
theorem ti114 : tiOf Tryz.prog 114 = some ⟨1, 8, false, [.nilm]⟩ := by kernel_rfl
theorem ti120 : tiOf Tryz.prog 120 = some ⟨1, 8, false, [.nilf]⟩ := by kernel_rfl
theorem ti125 : tiOf Tryz.prog 125 = some ⟨1, 8, false, [.int .u64 0]⟩ := by kernel_rfl
theorem ti133 : tiOf Tryz.prog 133 = some ⟨2, 16, true, [.int .i64 0, .int .i64 0]⟩ := by kernel_rfl
theorem ti181 : tiOf Tryz.prog 181 = some ⟨1, 8, false, [.int .u64 0]⟩ := by kernel_rfl
theorem ti186 : tiOf Tryz.prog 186 = some ⟨64, 64, true, [.int .u8 0, .int .u8 0, .int .u8 0, .int .u8 0, .int .u8 0, .int .u8 0, .int .u8 0, .int .u8 0, .int .u8 0, .int .u8 0, .int .u8 0, .int .u8 0, .int .u8 0, .int .u8 0, .int .u8 0, .int .u8 0, .int .u8 0, .int .u8 0, .int .u8 0, .int .u8 0, .int .u8 0, .int .u8 0, .int .u8 0, .int .u8 0, .int .u8 0, .int .u8 0, .int .u8 0, .int .u8 0, .int .u8 0, .int .u8 0, .int .u8 0, .int .u8 0, .int .u8 0, .int .u8 0, .int .u8 0, .int .u8 0, .int .u8 0, .int .u8 0, .int .u8 0, .int .u8 0, .int .u8 0, .int .u8 0, .int .u8 0, .int .u8 0, .int .u8 0, .int .u8 0, .int .u8 0, .int .u8 0, .int .u8 0, .int .u8 0, .int .u8 0, .int .u8 0, .int .u8 0, .int .u8 0, .int .u8 0, .int .u8 0, .int .u8 0, .int .u8 0, .int .u8 0, .int .u8 0, .int .u8 0, .int .u8 0, .int .u8 0, .int .u8 0]⟩ := by kernel_rfl
theorem un3 : Tryz.prog.underlying 3 = some (.int .i64) := by kernel_rfl
theorem un4 : Tryz.prog.underlying 4 = some .bool := by kernel_rfl
theorem un5 : Tryz.prog.underlying 5 = some (.int .u8) := by kernel_rfl
theorem un9 : Tryz.prog.underlying 9 = some .string := by kernel_rfl
theorem un22 : Tryz.prog.underlying 22 = some (.slice 9) := by kernel_rfl
theorem un23 : Tryz.prog.underlying 23 = some (.slice 125) := by kernel_rfl
theorem un26 : Tryz.prog.underlying 26 = some (.slice 70) := by kernel_rfl
theorem un27 : Tryz.prog.underlying 27 = some (.slice 82) := by kernel_rfl
theorem un28 : Tryz.prog.underlying 28 = some (.int .i64) := by kernel_rfl
theorem un32 : Tryz.prog.underlying 32 = some (.slice 86) := by kernel_rfl
theorem un36 : Tryz.prog.underlying 36 = some (.slice 41) := by kernel_rfl
theorem un49 : Tryz.prog.underlying 49 = some (.slice 28) := by kernel_rfl
theorem un59 : Tryz.prog.underlying 59 = some (.slice 3) := by kernel_rfl
theorem un62 : Tryz.prog.underlying 62 = some (.slice 25) := by kernel_rfl
theorem un76 : Tryz.prog.underlying 76 = some (.slice 5) := by kernel_rfl
theorem un87 : Tryz.prog.underlying 87 = some (.map 133 3) := by kernel_rfl
theorem un91 : Tryz.prog.underlying 91 = some (.map 28 3) := by kernel_rfl
theorem un92 : Tryz.prog.underlying 92 = some (.map 28 26) := by kernel_rfl
theorem un114 : Tryz.prog.underlying 114 = some (.map 28 49) := by kernel_rfl
theorem un125 : Tryz.prog.underlying 125 = some (.int .u64) := by kernel_rfl
theorem un152 : Tryz.prog.underlying 152 = some (.int .u64) := by kernel_rfl
theorem un172 : Tryz.prog.underlying 172 = some (.int .u32) := by kernel_rfl
theorem un181 : Tryz.prog.underlying 181 = some (.int .u64) := by kernel_rfl
theorem mixed : Tryz.prog.follows .mixedOrders = true := by kernel_rfl
end Go.Proofs.YteicbhkimepbaaaGreatDoor
namespace Go.Proofs.YteicbhkimepbaaaGreatDoor
set_option linter.unusedVariables false
set_option linter.unusedSimpArgs false
set_option maxRecDepth 100000
open Go.RowKit Fw
theorem bx : (arOf Tryz.prog 186 = some (64, 1)) ∧ (elOf Tryz.prog 22 = some (1, 16)) ∧ (elOf Tryz.prog 23 = some (1, 8)) ∧ (elOf Tryz.prog 26 = some (2, 16)) ∧ (elOf Tryz.prog 27 = some (2, 16)) ∧ (elOf Tryz.prog 32 = some (2, 16)) ∧ (elOf Tryz.prog 36 = some (2, 16)) ∧ (elOf Tryz.prog 49 = some (1, 8)) ∧ (elOf Tryz.prog 59 = some (1, 8)) ∧ (elOf Tryz.prog 62 = some (2, 48)) ∧ (elOf Tryz.prog 76 = some (1, 1)) ∧ (elOf Tryz.prog 186 = none) ∧ (eqOf Tryz.prog 41 = some [(0, 0), (1, 0)]) ∧ (eqOf Tryz.prog 70 = some [(0, 0), (1, 0)]) ∧ (eqOf Tryz.prog 86 = some [(0, 0), (1, 0)]) ∧ (fldOf Tryz.prog 25 0 = some (0, 1, false)) ∧ (fldOf Tryz.prog 25 1 = some (1, 1, false)) ∧ (fldOf Tryz.prog 30 0 = some (0, 1, false)) ∧ (fldOf Tryz.prog 30 1 = some (1, 1, false)) ∧ (fldOf Tryz.prog 41 0 = some (0, 1, false)) ∧ (fldOf Tryz.prog 41 1 = some (1, 1, false)) ∧ (fldOf Tryz.prog 70 0 = some (0, 1, false)) ∧ (fldOf Tryz.prog 70 1 = some (1, 1, false)) ∧ (fldOf Tryz.prog 82 0 = some (0, 1, false)) ∧ (fldOf Tryz.prog 82 1 = some (1, 1, false)) ∧ (fldOf Tryz.prog 86 0 = some (0, 1, false)) ∧ (fldOf Tryz.prog 86 1 = some (1, 1, false)) ∧ (fldOf Tryz.prog 89 0 = some (0, 2, true)) ∧ (fldOf Tryz.prog 89 1 = some (2, 1, false)) ∧ (plOf Tryz.prog 25 = some [(0, 1), (1, 1)]) ∧ (plOf Tryz.prog 30 = some [(0, 1), (1, 1)]) ∧ (plOf Tryz.prog 41 = some [(0, 1), (1, 1)]) ∧ (plOf Tryz.prog 70 = some [(0, 1), (1, 1)]) ∧ (plOf Tryz.prog 82 = some [(0, 1), (1, 1)]) ∧ (plOf Tryz.prog 86 = some [(0, 1), (1, 1)]) ∧ (plOf Tryz.prog 89 = some [(0, 2), (2, 1)]) ∧ (tiOf Tryz.prog 3 = some ⟨1, 8, false, [.int .i64 0]⟩) ∧ (tiOf Tryz.prog 4 = some ⟨1, 1, false, [.bool false]⟩) ∧ (tiOf Tryz.prog 5 = some ⟨1, 1, false, [.int .u8 0]⟩) ∧ (tiOf Tryz.prog 9 = some ⟨1, 16, false, [.str []]⟩) ∧ (tiOf Tryz.prog 22 = some ⟨1, 24, false, [.vec [] true]⟩) ∧ (tiOf Tryz.prog 23 = some ⟨1, 24, false, [.vec [] true]⟩) ∧ (tiOf Tryz.prog 25 = some ⟨2, 48, true, [.vec [] true, .vec [] true]⟩) ∧ (tiOf Tryz.prog 26 = some ⟨1, 24, false, [.vec [] true]⟩) ∧ (tiOf Tryz.prog 27 = some ⟨1, 24, false, [.vec [] true]⟩) ∧ (tiOf Tryz.prog 28 = some ⟨1, 8, false, [.int .i64 0]⟩) ∧ (tiOf Tryz.prog 30 = some ⟨2, 48, true, [.vec [] true, .vec [] true]⟩) ∧ (tiOf Tryz.prog 41 = some ⟨2, 16, true, [.int .i64 0, .int .i64 0]⟩) ∧ (tiOf Tryz.prog 49 = some ⟨1, 24, false, [.vec [] true]⟩) ∧ (tiOf Tryz.prog 70 = some ⟨2, 16, true, [.int .i64 0, .int .i64 0]⟩) ∧ (tiOf Tryz.prog 82 = some ⟨2, 16, true, [.int .i64 0, .int .i64 0]⟩) ∧ (tiOf Tryz.prog 86 = some ⟨2, 16, true, [.int .i64 0, .int .i64 0]⟩) ∧ (tiOf Tryz.prog 87 = some ⟨1, 8, false, [.nilm]⟩) ∧ (tiOf Tryz.prog 89 = some ⟨3, 56, true, [.vec [] true, .vec [] true, .nilm]⟩) ∧ (tiOf Tryz.prog 91 = some ⟨1, 8, false, [.nilm]⟩) ∧ (tiOf Tryz.prog 114 = some ⟨1, 8, false, [.nilm]⟩) ∧ (tiOf Tryz.prog 120 = some ⟨1, 8, false, [.nilf]⟩) ∧ (tiOf Tryz.prog 125 = some ⟨1, 8, false, [.int .u64 0]⟩) ∧ (tiOf Tryz.prog 133 = some ⟨2, 16, true, [.int .i64 0, .int .i64 0]⟩) ∧ (tiOf Tryz.prog 181 = some ⟨1, 8, false, [.int .u64 0]⟩) ∧ (tiOf Tryz.prog 186 = some ⟨64, 64, true, [.int .u8 0, .int .u8 0, .int .u8 0, .int .u8 0, .int .u8 0, .int .u8 0, .int .u8 0, .int .u8 0, .int .u8 0, .int .u8 0, .int .u8 0, .int .u8 0, .int .u8 0, .int .u8 0, .int .u8 0, .int .u8 0, .int .u8 0, .int .u8 0, .int .u8 0, .int .u8 0, .int .u8 0, .int .u8 0, .int .u8 0, .int .u8 0, .int .u8 0, .int .u8 0, .int .u8 0, .int .u8 0, .int .u8 0, .int .u8 0, .int .u8 0, .int .u8 0, .int .u8 0, .int .u8 0, .int .u8 0, .int .u8 0, .int .u8 0, .int .u8 0, .int .u8 0, .int .u8 0, .int .u8 0, .int .u8 0, .int .u8 0, .int .u8 0, .int .u8 0, .int .u8 0, .int .u8 0, .int .u8 0, .int .u8 0, .int .u8 0, .int .u8 0, .int .u8 0, .int .u8 0, .int .u8 0, .int .u8 0, .int .u8 0, .int .u8 0, .int .u8 0, .int .u8 0, .int .u8 0, .int .u8 0, .int .u8 0, .int .u8 0, .int .u8 0]⟩) ∧ (Tryz.prog.underlying 3 = some (.int .i64)) ∧ (Tryz.prog.underlying 4 = some .bool) ∧ (Tryz.prog.underlying 5 = some (.int .u8)) ∧ (Tryz.prog.underlying 9 = some .string) ∧ (Tryz.prog.underlying 22 = some (.slice 9)) ∧ (Tryz.prog.underlying 23 = some (.slice 125)) ∧ (Tryz.prog.underlying 26 = some (.slice 70)) ∧ (Tryz.prog.underlying 27 = some (.slice 82)) ∧ (Tryz.prog.underlying 28 = some (.int .i64)) ∧ (Tryz.prog.underlying 32 = some (.slice 86)) ∧ (Tryz.prog.underlying 36 = some (.slice 41)) ∧ (Tryz.prog.underlying 49 = some (.slice 28)) ∧ (Tryz.prog.underlying 59 = some (.slice 3)) ∧ (Tryz.prog.underlying 62 = some (.slice 25)) ∧ (Tryz.prog.underlying 76 = some (.slice 5)) ∧ (Tryz.prog.underlying 87 = some (.map 133 3)) ∧ (Tryz.prog.underlying 91 = some (.map 28 3)) ∧ (Tryz.prog.underlying 92 = some (.map 28 26)) ∧ (Tryz.prog.underlying 114 = some (.map 28 49)) ∧ (Tryz.prog.underlying 125 = some (.int .u64)) ∧ (Tryz.prog.underlying 152 = some (.int .u64)) ∧ (Tryz.prog.underlying 172 = some (.int .u32)) ∧ (Tryz.prog.underlying 181 = some (.int .u64)) :=
  ⟨ar186, el22, el23, el26, el27, el32, el36, el49, el59, el62, el76, el186, eq41, eq70, eq86, fl25_0, fl25_1, fl30_0, fl30_1, fl41_0, fl41_1, fl70_0, fl70_1, fl82_0, fl82_1, fl86_0, fl86_1, fl89_0, fl89_1, pl25, pl30, pl41, pl70, pl82, pl86, pl89, ti3, ti4, ti5, ti9, ti22, ti23, ti25, ti26, ti27, ti28, ti30, ti41, ti49, ti70, ti82, ti86, ti87, ti89, ti91, ti114, ti120, ti125, ti133, ti181, ti186, un3, un4, un5, un9, un22, un23, un26, un27, un28, un32, un36, un49, un59, un62, un76, un87, un91, un92, un114, un125, un152, un172, un181⟩
theorem dx :
    ((∀ n, (S1 n).length = 1) ∧ (∀ n, (S1 n)[0]? = some (.str n)) ∧ (∀ (m : Nat) n, PV.bdL m (S1 n) = true)) ∧
    ((∀ n, (U1 n).length = 1) ∧ (∀ n : Nat, (U1 n)[0]? = some (.int .u64 (n : Int))) ∧ (∀ (m : Nat) n, PV.bdL m (U1 n) = true)) ∧
    ((∀ n, (I1 n).length = 1) ∧ (∀ n, (I1 n)[0]? = some (.int .i64 n)) ∧ (∀ (m : Nat) n, PV.bdL m (I1 n) = true)) ∧
    ((∀ n, (B8 n).length = 1) ∧ (∀ n, (B8 n)[0]? = some (.int .u8 n)) ∧ (∀ (m : Nat) n, PV.bdL m (B8 n) = true)) ∧
    ((∀ p : Pr, p.enc.length = 2) ∧ (∀ p : Pr, p.enc[0]? = some (.int .i64 p.a)) ∧ (∀ p : Pr, p.enc[1]? = some (.int .i64 p.b)) ∧ (∀ p : Pr, p.enc.drop 1 = [.int .i64 p.b]) ∧ (∀ p : Pr, p.enc.take 2 = p.enc) ∧ (∀ (m : Nat) (p : Pr), PV.bdL m p.enc = true)) ∧
    ((∀ x : So, x.enc.length = 2) ∧ (∀ x : So, x.enc[0]? = some (.int .i64 x.v)) ∧ (∀ x : So, x.enc[1]? = some (.int .i64 x.p)) ∧ (∀ x : So, x.enc.drop 1 = [.int .i64 x.p]) ∧ (∀ x : So, x.enc.take 2 = x.enc) ∧ (∀ (m : Nat) (x : So), PV.bdL m x.enc = true)) :=
  ⟨S1_fw, U1_fw, I1_fw, B8_fw, Pr.fw, So.fw⟩
end Go.Proofs.YteicbhkimepbaaaGreatDoor
namespace Go.Proofs.YteicbhkimepbaaaGreatDoor
set_option linter.unusedVariables false
set_option linter.unusedSimpArgs false
set_option maxRecDepth 100000
open Go.RowKit Fw
theorem all_succ (p : Nat → Bool) (i : Nat) : (List.range (i + 1)).all p = ((List.range i).all p && p i) := by
  rw [List.range_succ, List.all_append]; simp
theorem all_false {p : Nat → Bool} {j n : Nat} (hj : j < n) (h : p j = false) : (List.range n).all p = false := by
  rw [List.all_eq_false]
  exact ⟨j, List.mem_range.2 hj, by rw [h]; simp⟩
def letB (c : UInt8) : Bool := decide (97 ≤ c.toNat) && decide (c.toNat ≤ 122) || decide (65 ≤ c.toNat) && decide (c.toNat ≤ 90)
def digB (c : UInt8) : Bool := decide (48 ≤ c.toNat) && decide (c.toNat ≤ 57)
def chB (j : Nat) (c : UInt8) : Bool := letB c || (decide (0 < j) && digB c)
def chsB (s : List UInt8) (k : Nat) : Bool := (List.range k).all fun j => chB j (s.getD j 0)
def nameB (s : List UInt8) : Bool := decide (0 < s.length) && decide (s.length ≤ 16) && chsB s s.length
theorem chsB_succ {s : List UInt8} {i : Nat} {c : UInt8} (h : s[i]? = some c) : chsB s (i + 1) = (chsB s i && chB i c) := by
  unfold chsB
  rw [all_succ, List.getD_eq_getElem?_getD, h]; rfl
theorem chsB_false {s : List UInt8} {i : Nat} {c : UInt8} (h : s[i]? = some c) (hc : chB i c = false) : nameB s = false := by
  have hi : i < s.length := (List.getElem?_eq_some_iff.1 h).1
  have : chsB s s.length = false := by
    unfold chsB
    exact all_false hi (by rw [List.getD_eq_getElem?_getD, h]; exact hc)
  unfold nameB
  rw [this, Bool.and_false]
def orX (c : UInt8) : Int := IntKind.u8.wrap ((BitVec.ofInt IntKind.u8.bits (c.toNat : Int) ||| BitVec.ofInt IntKind.u8.bits 32).toNat : Int)
theorem letX_fin : ∀ n : Fin 256, (decide (97 ≤ IntKind.u8.wrap ((BitVec.ofInt IntKind.u8.bits (n.val : Int) ||| BitVec.ofInt IntKind.u8.bits 32).toNat : Int)) && decide (IntKind.u8.wrap ((BitVec.ofInt IntKind.u8.bits (n.val : Int) ||| BitVec.ofInt IntKind.u8.bits 32).toNat : Int) ≤ 122)) = (decide (97 ≤ n.val) && decide (n.val ≤ 122) || decide (65 ≤ n.val) && decide (n.val ≤ 90)) := by
  decide +kernel
theorem letX (c : UInt8) : (decide (97 ≤ orX c) && decide (orX c ≤ 122)) = letB c := letX_fin ⟨c.toNat, c.toNat_lt⟩
theorem c147 (Γ : Nat → PV) (c : UInt8) : Gives Tryz.prog Γ 147 [.int .u8 (c.toNat : Int)] (.bool (letB c)) := by
  refine fn_of_awp Tryz.func147 rfl (by simp [Tryz.f147]) rfl fun H => ?_
  rw [← letX]
  have hX : orX c = IntKind.u8.wrap ((BitVec.ofInt IntKind.u8.bits (c.toNat : Int) ||| BitVec.ofInt IntKind.u8.bits 32).toNat : Int) := rfl
  refine awp_seq ?_
  refine awp_run rfl (by simp only [fwA, seval] <;> rfl) ?_
  refine awp_seq ?_
  by_cases h : 97 ≤ orX c
  · rw [decide_eq_true h, Bool.true_and]
    refine awp_run rfl (by simp only [fwA, seval, bitfw, ← hX, h, decide_true] <;> rfl) ?_
    refine awp_ret ?_
    exact gives_end0 (.inl rfl) rfl
  · rw [decide_eq_false h, Bool.false_and]
    refine awp_run rfl (by simp only [fwA, seval, bitfw, ← hX, h, decide_false] <;> rfl) ?_
    refine awp_ret ?_
    exact gives_end0 (.inl rfl) rfl
theorem c128 (Γ : Nat → PV) (s : List UInt8) : Gives Tryz.prog Γ 128 [.str s] (.bool (nameB s)) := by
  refine fn_of_awp Tryz.func128 rfl (by simp [Tryz.f128]) rfl fun H => ?_
  refine awp_slen 0 rfl fun hsl => ?_
  refine awp_seq ?_
  refine awp_run rfl (by simp only [fwA, seval] <;> rfl) ?_
  refine awp_seq ?_
  refine awp_seq ?_
  refine awp_run rfl (by simp only [fwA, seval, gfw, bx, dx] <;> rfl) ?_
  refine awp_block ?_
  refine awp_for [0, 6, 7] (fun i : Nat => [.str s, .int .i64 (s.length : Int), .int .i64 (i : Int)]) (fun _ => H) (fun i => s.length - i) (fun i => i ≤ s.length ∧ chsB s i = true) 0 rfl rfl ⟨Nat.zero_le _, rfl⟩ fun i hi => ?_
  obtain ⟨hi, hch⟩ := hi
  refine awp_seq ?_
  refine awp_run rfl (by simp only [fwA, seval, gfw, bx, dx] <;> rfl) ?_
  refine awp_seq ?_
  refine awp_cond (by simp only [fwA, seval] <;> rfl) ?_
  by_cases hc : (i : Int) < s.length
  rotate_left
  · simp only [hc, decide_false, Bool.false_eq_true, ↓reduceIte]
    refine awp_exit ?_
    have e : i = s.length := by omega
    subst e
    refine awp_seq ?_
    by_cases h0 : (0 : Int) < s.length
    · refine awp_run rfl (by simp only [fwA, seval, gfw, bx, dx, h0] <;> rfl) ?_
      refine awp_ret ?_
      have h0' : 0 < s.length := by omega
      have e2 : decide ((s.length : Int) ≤ 16) = decide (s.length ≤ 16) := decide_eq_decide.2 (by omega)
      exact gives_end0 (.inl rfl) (by unfold nameB; rw [hch, decide_eq_true h0', ← e2, Bool.true_and, Bool.and_true]; rfl)
    · refine awp_run rfl (by simp only [fwA, seval, gfw, bx, dx, h0] <;> rfl) ?_
      refine awp_ret ?_
      have h0' : ¬ 0 < s.length := by omega
      exact gives_end0 (.inl rfl) (by unfold nameB; rw [decide_eq_false h0']; rfl)
  simp only [hc, decide_true, ↓reduceIte]
  refine awp_skip ?_
  have hil : i < s.length := by omega
  have ga : s[i]? = some s[i] := List.getElem?_eq_getElem hil
  generalize s[i] = c at ga
  have hwi : IntKind.i64.wrap ((i : Int) + 1) = ((i + 1 : Nat) : Int) := wrapS i (by omega)
  have hst := chsB_succ ga
  refine awp_seq ?_
  refine awp_block ?_
  refine awp_seq ?_
  refine awp_run rfl (by simp only [fwA, seval] <;> rfl) ?_
  refine awp_join [0, 3, 4, 6, 7] (fun d : Bool => [.str s, .int .i64 (i : Int), .bool d, .int .i64 (s.length : Int), .int .i64 (i : Int)]) (fun _ => H) (fun d => d = digB c) ?_ fun d hd => ?_
  · have e1 : decide ((48 : Int) ≤ (c.toNat : Int)) = decide (48 ≤ c.toNat) := decide_eq_decide.2 (by omega)
    have e2 : decide ((c.toNat : Int) ≤ 57) = decide (c.toNat ≤ 57) := decide_eq_decide.2 (by omega)
    by_cases h1 : (48 : Int) ≤ (c.toNat : Int)
    · refine awp_run rfl (by simp only [fwA, seval, gfw, bx, dx, ga, h1] <;> rfl) ?_
      exact ⟨_, by unfold digB; rw [← e1, ← e2, decide_eq_true h1, Bool.true_and], rfl, rfl, rfl⟩
    · refine awp_run rfl (by simp only [fwA, seval, gfw, bx, dx, ga, h1] <;> rfl) ?_
      exact ⟨_, by unfold digB; rw [← e1, decide_eq_false h1, Bool.false_and], rfl, rfl, rfl⟩
  subst hd
  have h49 := c147 Γ c
  refine awp_seq ?_
  cases hL : letB c
  · rw [hL] at h49
    by_cases h0 : (i : Int) = 0
    · have hd0 : decide ((i : Int) = 0) = true := decide_eq_true h0
      refine awp_region rfl ?_
      refine aops_run 3 (by simp only [fwA, seval, gfw, bx, dx, ga, hd0] <;> rfl) ?_
      refine aops_fn rfl rfl rfl en147 h49 ?_
      refine aops_run 9 (by simp only [fwA, seval, gfw, bx, dx, ga, hd0] <;> rfl) ?_
      refine aops_end ?_
      refine awp_cond (b := true) (by simp [alook, aput, ev]) ?_
      refine awp_seq ?_
      refine awp_run rfl (by simp only [fwA, seval] <;> rfl) ?_
      refine awp_ret ?_
      exact gives_end0 (.inl rfl) (by rw [chsB_false ga (by unfold chB; rw [hL, decide_eq_false (by omega)]; rfl)]; rfl)
    · have h0' : 0 < i := by omega
      cases hD : digB c
      · refine awp_region rfl ?_
        refine aops_run 3 (by simp only [fwA, seval, gfw, bx, dx, ga, h0] <;> rfl) ?_
        refine aops_fn rfl rfl rfl en147 h49 ?_
        refine aops_run 9 (by simp only [fwA, seval, gfw, bx, dx, ga, h0] <;> rfl) ?_
        refine aops_end ?_
        refine awp_cond (b := true) (by simp [alook, aput, ev]) ?_
        refine awp_seq ?_
        refine awp_run rfl (by simp only [fwA, seval] <;> rfl) ?_
        refine awp_ret ?_
        exact gives_end0 (.inl rfl) (by rw [chsB_false ga (by unfold chB; rw [hL, hD, Bool.and_false]; rfl)]; rfl)
      · refine awp_region rfl ?_
        refine aops_run 3 (by simp only [fwA, seval, gfw, bx, dx, ga, h0] <;> rfl) ?_
        refine aops_fn rfl rfl rfl en147 h49 ?_
        refine aops_run 9 (by simp only [fwA, seval, gfw, bx, dx, ga, h0] <;> rfl) ?_
        refine aops_end ?_
        refine awp_cond (b := false) (by simp [alook, aput, ev]) (awp_skip ?_)
        refine awp_run rfl (by simp only [fwA, seval] <;> rfl) ?_
        refine ⟨i + 1, by omega, ⟨by omega, by rw [hst, hch]; unfold chB; rw [hL, hD, decide_eq_true h0']; rfl⟩, ?_, rfl, rfl⟩
        simp only [fwA, seval, gfw, hwi]
  · rw [hL] at h49
    refine awp_region rfl ?_
    refine aops_run 3 (by simp only [fwA, seval, gfw, bx, dx, ga] <;> rfl) ?_
    refine aops_fn rfl rfl rfl en147 h49 ?_
    refine aops_run 9 (by simp only [fwA, seval, gfw, bx, dx, ga] <;> rfl) ?_
    refine aops_end ?_
    refine awp_cond (b := false) (by simp [alook, aput, ev]) (awp_skip ?_)
    refine awp_run rfl (by simp only [fwA, seval] <;> rfl) ?_
    refine ⟨i + 1, by omega, ⟨by omega, by rw [hst, hch]; unfold chB; rw [hL]; rfl⟩, ?_, rfl, rfl⟩
    simp only [fwA, seval, gfw, hwi]
def idxS (l : List (List UInt8)) (s : List UInt8) : Int := match l.findIdx? (fun x => decide (s = x)) with | some k => (k : Int) | none => -1
theorem idxS_none {l : List (List UInt8)} {s : List UInt8} (h : ∀ j, j < l.length → l[j]? ≠ some s) : idxS l s = -1 := by
  unfold idxS
  have : l.findIdx? (fun x => decide (s = x)) = none := by
    rw [List.findIdx?_eq_none_iff]
    intro x hx
    obtain ⟨j, hj⟩ := List.getElem?_of_mem hx
    have := h j (List.getElem?_eq_some_iff.1 hj).1
    rw [hj] at this
    simpa using fun e : s = x => this (by rw [e])
  rw [this]
theorem idxS_some {l : List (List UInt8)} {s : List UInt8} {i : Nat} (h : ∀ j, j < i → l[j]? ≠ some s) (hi : l[i]? = some s) : idxS l s = i := by
  unfold idxS
  have : l.findIdx? (fun x => decide (s = x)) = some i := by
    obtain ⟨h1, h2⟩ := List.getElem?_eq_some_iff.1 hi
    rw [List.findIdx?_eq_some_iff_getElem]
    refine ⟨h1, by simp [h2], fun j hj => ?_⟩
    have := h j hj
    rw [List.getElem?_eq_getElem (by omega)] at this
    simpa using fun e : s = l[j] => this (by rw [e])
  rw [this]
theorem c129 (Γ : Nat → PV) (l : List (List UInt8)) (s : List UInt8) : Gives Tryz.prog Γ 129 [.vec (l.map S1) false, .str s] (.int .i64 (idxS l s)) := by
  refine fn_of_awp Tryz.func129 rfl (by simp [Tryz.f129]) rfl fun H => ?_
  refine awp_vlen 0 rfl fun hsl => ?_
  rw [List.length_map] at hsl
  refine awp_seq ?_
  refine awp_run rfl (by simp only [fwA, seval] <;> rfl) ?_
  refine awp_seq ?_
  refine awp_seq ?_
  refine awp_run rfl (by simp only [fwA, seval, gfw, bx, dx] <;> rfl) ?_
  refine awp_block ?_
  refine awp_for [0, 1, 7, 8] (fun i : Nat => [.vec (l.map S1) false, .str s, .int .i64 (l.length : Int), .int .i64 (i : Int)]) (fun _ => H) (fun i => l.length - i) (fun i => i ≤ l.length ∧ ∀ j, j < i → l[j]? ≠ some s) 0 rfl rfl ⟨Nat.zero_le _, fun j hj => by omega⟩ fun i hi => ?_
  obtain ⟨hi, hno⟩ := hi
  refine awp_seq ?_
  refine awp_run rfl (by simp only [fwA, seval, gfw, bx, dx] <;> rfl) ?_
  refine awp_seq ?_
  refine awp_cond (by simp only [fwA, seval] <;> rfl) ?_
  by_cases hc : (i : Int) < l.length
  rotate_left
  · simp only [hc, decide_false, Bool.false_eq_true, ↓reduceIte]
    refine awp_exit ?_
    have e : i = l.length := by omega
    subst e
    refine awp_seq ?_
    refine awp_run rfl (by simp only [fwA, seval] <;> rfl) ?_
    refine awp_ret ?_
    exact gives_end0 (.inl rfl) (by rw [idxS_none hno]; rfl)
  simp only [hc, decide_true, ↓reduceIte]
  refine awp_skip ?_
  have hil : i < l.length := by omega
  have ga : l[i]? = some l[i] := List.getElem?_eq_getElem hil
  generalize l[i] = c at ga
  have hwi : IntKind.i64.wrap ((i : Int) + 1) = ((i + 1 : Nat) : Int) := wrapS i (by omega)
  refine awp_seq ?_
  refine awp_block ?_
  refine awp_seq ?_
  refine awp_run rfl (by simp only [fwA, seval] <;> rfl) ?_
  refine awp_seq ?_
  by_cases he : s = c
  · refine awp_run rfl (by simp only [fwA, seval, gfw, bx, dx, ga, he] <;> rfl) ?_
    refine awp_cond (b := true) (by simp [alook, aput, ev]) ?_
    refine awp_seq ?_
    refine awp_run rfl (by simp only [fwA, seval] <;> rfl) ?_
    refine awp_ret ?_
    exact gives_end0 (.inl rfl) (by rw [idxS_some hno (by rw [he]; exact ga)]; rfl)
  · refine awp_run rfl (by simp only [fwA, seval, gfw, bx, dx, ga, he] <;> rfl) ?_
    refine awp_cond (b := false) (by simp [alook, aput, ev]) (awp_skip ?_)
    refine awp_run rfl (by simp only [fwA, seval] <;> rfl) ?_
    refine ⟨i + 1, by omega, ⟨by omega, fun j hj e => ?_⟩, ?_, rfl, rfl⟩
    · by_cases hji : j = i
      · subst hji; rw [ga, Option.some.injEq] at e; exact he e.symm
      · exact hno j (by omega) e
    · simp only [fwA, seval, gfw, hwi]
end Go.Proofs.YteicbhkimepbaaaGreatDoor
namespace Go.Proofs.YteicbhkimepbaaaGreatDoor
set_option linter.unusedVariables false
set_option linter.unusedSimpArgs false
set_option maxRecDepth 100000
open Go.RowKit Fw
def W64 (us : List Nat) : Prop := ∀ x ∈ us, x < 2 ^ 64
def ptB (n : Nat) (a : Int) : Bool := decide (0 ≤ a) && decide (a < n)
def leqB (n : Nat) (us : List Nat) (a b : Int) : Bool := ptB n a && ptB n b && lq us a.toNat b.toNat
theorem min_cast (m n : Nat) : (if (n : Int) < m then (n : Int) else m) = ((min m n : Nat) : Int) := by
  split <;> omega
theorem c94 (Γ : Nat → PV) (ns : List (List UInt8)) (us : List Nat) (a : Int) : Gives Tryz.prog Γ 94 [.agg [.vec (ns.map S1) false, .vec (us.map U1) false], .int .i64 a] (.bool (ptB (min ns.length us.length) a)) := by
  refine fn_of_awp Tryz.func94 rfl (by simp [Tryz.f94]) rfl fun H => ?_
  refine awp_seq ?_
  refine awp_run rfl (by simp only [fwA, seval] <;> rfl) ?_
  refine awp_seq ?_
  by_cases h : 0 ≤ a
  · refine awp_region rfl ?_
    refine aops_run 10 (by simp only [fwA, seval, gfw, bx, dx, bitfw, h] <;> rfl) ?_
    refine aops_if rfl rfl rfl (os_min rfl rfl rfl ?_)
    refine aops_run 3 (by simp only [fwA, seval, gfw, bx, dx, bitfw, h] <;> rfl) ?_
    refine aops_end ?_
    refine awp_ret ?_
    refine gives_end (.inl rfl) _ ?_
    simp only [fwA, seval, ares, aresL, ares1, Tryz.f94, ptB, decide_eq_true h, Bool.true_and]
    first | rfl | (rw [min_cast]) | (simp only [min_cast])
  · refine awp_run rfl (by simp only [fwA, seval, gfw, bx, dx, bitfw, h] <;> rfl) ?_
    refine awp_ret ?_
    exact gives_end (.inl rfl) _ (by unfold ptB; rw [decide_eq_false h]; rfl)
theorem c98 (Γ : Nat → PV) (ns : List (List UInt8)) (us : List Nat) : Gives Tryz.prog Γ 98 [.agg [.vec (ns.map S1) false, .vec (us.map U1) false]] (.int .i64 ((min ns.length us.length : Nat) : Int)) := by
  refine fn_of_awp Tryz.func98 rfl (by simp [Tryz.f98]) rfl fun H => ?_
  refine awp_seq ?_
  refine awp_run rfl (by simp only [fwA, seval] <;> rfl) ?_
  refine awp_seq ?_
  refine awp_region rfl ?_
  refine aops_run 6 (by simp only [fwA, seval, gfw, bx, dx, bitfw] <;> rfl) ?_
  refine aops_one rfl (os_min rfl rfl rfl ?_)
  refine aops_run 1 (by simp only [fwA, seval, gfw, bx, dx, bitfw] <;> rfl) ?_
  refine aops_end ?_
  refine awp_ret ?_
  refine gives_end (.inl rfl) _ ?_
  simp only [fwA, seval, ares, aresL, ares1, Tryz.f98]
  first | rfl | (rw [min_cast]) | (simp only [min_cast])
theorem c96 (Γ : Nat → PV) (ns : List (List UInt8)) (us : List Nat) (hn : us.length ≤ 64) : Gives Tryz.prog Γ 96 [.agg [.vec (ns.map S1) false, .vec (us.map U1) false]] (.int .u64 ((2 ^ us.length - 1 : Nat) : Int)) := by
  refine fn_of_awp Tryz.func96 rfl (by simp [Tryz.f96]) rfl fun H => ?_
  refine awp_seq ?_
  refine awp_run rfl (by simp only [fwA, seval] <;> rfl) ?_
  refine awp_seq ?_
  refine awp_run rfl (by simp only [fwA, seval, gfw, bx, dx, bitfw, uAll hn] <;> rfl) ?_
  refine awp_ret ?_
  exact gives_end (.inl rfl) _ rfl
theorem getW {us : List Nat} (hw : W64 us) {a : Nat} (ha : a < us.length) : ∃ x, us[a]? = some x ∧ x < 2 ^ 64 ∧ us.getD a 0 = x := by
  refine ⟨us[a], List.getElem?_eq_getElem ha, hw _ (List.getElem_mem ha), ?_⟩
  rw [List.getD_eq_getElem?_getD, List.getElem?_eq_getElem ha]; rfl
theorem c44 (Γ : Nat → PV) (ns : List (List UInt8)) (us : List Nat) (hw : W64 us) (a b : Int) : Gives Tryz.prog Γ 44 [.agg [.vec (ns.map S1) false, .vec (us.map U1) false], .int .i64 a, .int .i64 b] (.bool (leqB (min ns.length us.length) us a b)) := by
  have ha := c94 Γ ns us a
  have hb := c94 Γ ns us b
  refine fn_of_awp Tryz.func44 rfl (by simp [Tryz.f44]) rfl fun H => ?_
  refine awp_seq ?_
  refine awp_run rfl (by simp only [fwA, seval] <;> rfl) ?_
  refine awp_seq ?_
  by_cases h1 : ptB (min ns.length us.length) a = true
  rotate_left
  · have h1' : ptB (min ns.length us.length) a = false := by simpa using h1
    rw [h1'] at ha
    refine awp_region rfl ?_
    refine aops_run 2 (by simp only [fwA, seval, gfw, bx, dx, bitfw] <;> rfl) ?_
    refine aops_fn rfl rfl rfl en94 ha ?_
    refine aops_run 13 (by simp only [fwA, seval, gfw, bx, dx, bitfw] <;> rfl) ?_
    refine aops_run 4 (by simp only [fwA, seval, gfw, bx, dx, bitfw] <;> rfl) ?_
    refine aops_end ?_
    refine awp_ret ?_
    exact gives_end (.inl rfl) _ (by unfold leqB; rw [h1']; rfl)
  by_cases h2 : ptB (min ns.length us.length) b = true
  rotate_left
  · have h2' : ptB (min ns.length us.length) b = false := by simpa using h2
    rw [h1] at ha
    rw [h2'] at hb
    refine awp_region rfl ?_
    refine aops_run 2 (by simp only [fwA, seval, gfw, bx, dx, bitfw] <;> rfl) ?_
    refine aops_fn rfl rfl rfl en94 ha ?_
    refine aops_run 3 (by simp only [fwA, seval, gfw, bx, dx, bitfw] <;> rfl) ?_
    refine aops_fnIf rfl rfl rfl rfl rfl en94 hb ?_
    refine aops_run 13 (by simp only [fwA, seval, gfw, bx, dx, bitfw] <;> rfl) ?_
    refine aops_end ?_
    refine awp_ret ?_
    exact gives_end (.inl rfl) _ (by unfold leqB; rw [h2', Bool.and_false]; rfl)
  rw [h1] at ha
  rw [h2] at hb
  have e : leqB (min ns.length us.length) us a b = lq us a.toNat b.toNat := by unfold leqB; rw [h1, h2]; rfl
  rw [e]
  unfold ptB at h1 h2
  simp only [Bool.and_eq_true, decide_eq_true_eq] at h1 h2
  obtain ⟨a, rfl⟩ : ∃ n : Nat, a = n := ⟨a.toNat, by omega⟩
  obtain ⟨b, rfl⟩ : ∃ n : Nat, b = n := ⟨b.toNat, by omega⟩
  obtain ⟨x, gx, hx, ex⟩ := getW hw (a := a) (by omega)
  have e2 : lq us (a : Int).toNat (b : Int).toNat = x.testBit b := by unfold lq; rw [Int.toNat_natCast, ex]; rfl
  have hs := uShr b hx
  have hxs : x >>> b < 2 ^ 64 := Nat.lt_of_le_of_lt (by rw [Nat.shiftRight_eq_div_pow]; exact Nat.div_le_self _ _) hx
  have h3 := uAnd1 hxs
  have h4 := bit_eq x b
  rw [e2]
  refine awp_region rfl ?_
  refine aops_run 2 (by simp only [fwA, seval, gfw, bx, dx, bitfw, gx, hs, h3, h4] <;> rfl) ?_
  refine aops_fn rfl rfl rfl en94 ha ?_
  refine aops_run 3 (by simp only [fwA, seval, gfw, bx, dx, bitfw, gx, hs, h3, h4] <;> rfl) ?_
  refine aops_fnIf rfl rfl rfl rfl rfl en94 hb ?_
  refine aops_run 13 (by simp only [fwA, seval, gfw, bx, dx, bitfw, gx, hs, h3, h4] <;> rfl) ?_
  refine aops_end ?_
  refine awp_ret ?_
  exact gives_end (.inl rfl) _ rfl
theorem c57 (Γ : Nat → PV) (ns : List (List UInt8)) (us : List Nat) (hw : W64 us) (a b : Int) : Gives Tryz.prog Γ 57 [.agg [.vec (ns.map S1) false, .vec (us.map U1) false], .int .i64 a, .int .i64 b] (.bool (leqB (min ns.length us.length) us a b)) := by
  have h48 := c98 Γ ns us
  have hz : leqB (min ns.length us.length) us a b = true → b < 64 := fun h => by
    unfold leqB ptB at h
    simp only [Bool.and_eq_true, decide_eq_true_eq] at h
    obtain ⟨x, gx, hx, ex⟩ := getW hw (a := a.toNat) (by omega)
    have h2 := h.2
    unfold lq at h2
    rw [ex] at h2
    have := bit_lt hx h2
    omega
  refine fn_of_awp Tryz.func57 rfl (by simp [Tryz.f57]) rfl fun H => ?_
  refine awp_seq ?_
  refine awp_run rfl (by simp only [fwA, seval] <;> rfl) ?_
  refine awp_seq ?_
  refine awp_region rfl ?_
  refine aops_run 1 (by simp only [fwA, seval, gfw, bx, dx, bitfw] <;> rfl) ?_
  refine aops_fn rfl rfl rfl en98 h48 ?_
  refine aops_run 1 (by simp only [fwA, seval, gfw, bx, dx, bitfw] <;> rfl) ?_
  refine aops_end ?_
  refine awp_seq ?_
  by_cases h1 : 0 ≤ a
  rotate_left
  · refine awp_run rfl (by simp only [fwA, seval, gfw, bx, dx, bitfw, h1] <;> rfl) ?_
    refine awp_ret ?_
    exact gives_end (.inl rfl) _ (by unfold leqB ptB; rw [decide_eq_false h1]; rfl)
  by_cases h2 : 0 ≤ b
  rotate_left
  · refine awp_run rfl (by simp only [fwA, seval, gfw, bx, dx, bitfw, h1, h2] <;> rfl) ?_
    refine awp_ret ?_
    exact gives_end (.inl rfl) _ (by unfold leqB ptB; rw [decide_eq_false h2, Bool.false_and, Bool.and_false]; rfl)
  by_cases h3 : a < ((min ns.length us.length : Nat) : Int)
  rotate_left
  · refine awp_run rfl (by simp only [fwA, seval, gfw, bx, dx, bitfw, h1, h2, h3] <;> rfl) ?_
    refine awp_ret ?_
    exact gives_end (.inl rfl) _ (by unfold leqB ptB; rw [decide_eq_false h3, Bool.and_false]; rfl)
  by_cases h4 : b < ((min ns.length us.length : Nat) : Int)
  rotate_left
  · refine awp_run rfl (by simp only [fwA, seval, gfw, bx, dx, bitfw, h1, h2, h3, h4] <;> rfl) ?_
    refine awp_ret ?_
    exact gives_end (.inl rfl) _ (by unfold leqB ptB; rw [decide_eq_false h4, Bool.and_false, Bool.and_false]; rfl)
  by_cases h5 : b < 64
  rotate_left
  · refine awp_run rfl (by simp only [fwA, seval, gfw, bx, dx, bitfw, h1, h2, h3, h4, h5] <;> rfl) ?_
    refine awp_ret ?_
    have h6 : leqB (min ns.length us.length) us a b = false := by
      cases h6 : leqB (min ns.length us.length) us a b
      · rfl
      · exact absurd (hz h6) h5
    exact gives_end (.inl rfl) _ (by rw [h6]; rfl)
  have e : leqB (min ns.length us.length) us a b = lq us a.toNat b.toNat := by unfold leqB ptB; rw [decide_eq_true h1, decide_eq_true h2, decide_eq_true h3, decide_eq_true h4]; rfl
  rw [e]
  obtain ⟨a, rfl⟩ : ∃ n : Nat, a = n := ⟨a.toNat, by omega⟩
  obtain ⟨b, rfl⟩ : ∃ n : Nat, b = n := ⟨b.toNat, by omega⟩
  obtain ⟨x, gx, hx, ex⟩ := getW hw (a := a) (by omega)
  have e2 : lq us (a : Int).toNat (b : Int).toNat = x.testBit b := by unfold lq; rw [Int.toNat_natCast, ex]; rfl
  have hs := uShr b hx
  have h7 := bit_mod x b
  rw [e2]
  refine awp_run rfl (by simp only [fwA, seval, gfw, bx, dx, bitfw, h1, h2, h3, h4, h5, gx, hs] <;> rfl) ?_
  refine awp_ret ?_
  exact gives_end (.inl rfl) _ (by rw [← h7]; rfl)
theorem c130 (Γ : Nat → PV) (ns : List (List UInt8)) (us : List Nat) (hw : W64 us) (hn : us.length ≤ 64) (a : Nat) : Gives Tryz.prog Γ 130 [.agg [.vec (ns.map S1) false, .vec (us.map U1) false], .int .i64 (a : Int)] (.int .u64 ((dn us a us.length : Nat) : Int)) := by
  refine fn_of_awp Tryz.func130 rfl (by simp [Tryz.f130]) rfl fun H => ?_
  refine awp_seq ?_
  refine awp_run rfl (by simp only [fwA, seval] <;> rfl) ?_
  refine awp_seq ?_
  refine awp_run rfl (by simp only [fwA, seval] <;> rfl) ?_
  refine awp_seq ?_
  refine awp_seq ?_
  refine awp_run rfl (by simp only [fwA, seval, gfw, bx, dx, bitfw] <;> rfl) ?_
  refine awp_block ?_
  refine awp_for [1, 5, 9, 10, 11] (fun i : Nat => [.int .i64 (a : Int), .int .u64 ((dn us a i : Nat) : Int), .vec (us.map U1) false, .int .i64 (us.length : Int), .int .i64 (i : Int)]) (fun _ => H ++ [.box (laC ns us)]) (fun i => us.length - i) (fun i => i ≤ us.length) 0 rfl rfl (Nat.zero_le _) fun i hi => ?_
  refine awp_seq ?_
  refine awp_run rfl (by simp only [fwA, seval, gfw, bx, dx, bitfw] <;> rfl) ?_
  refine awp_seq ?_
  refine awp_cond (by simp only [fwA, seval] <;> rfl) ?_
  by_cases hc : (i : Int) < us.length
  rotate_left
  · simp only [hc, decide_false, Bool.false_eq_true, ↓reduceIte]
    refine awp_exit ?_
    have e : i = us.length := by omega
    subst e
    refine awp_seq ?_
    refine awp_run rfl (by simp only [fwA, seval] <;> rfl) ?_
    refine awp_ret ?_
    exact gives_end (.inl rfl) _ rfl
  simp only [hc, decide_true, ↓reduceIte]
  refine awp_skip ?_
  obtain ⟨x, gx, hx, ex⟩ := getW hw (a := i) (by omega)
  have hwi : IntKind.i64.wrap ((i : Int) + 1) = ((i + 1 : Nat) : Int) := wrapS i (by omega)
  have hs := uShr a hx
  have hxs : x >>> a < 2 ^ 64 := Nat.lt_of_le_of_lt (by rw [Nat.shiftRight_eq_div_pow]; exact Nat.div_le_self _ _) hx
  have h3 := uAnd1 hxs
  have hb : (x >>> a &&& 1) <<< i < 2 ^ 64 := lt_of_bits fun j hj => by rw [one_bit, decide_eq_false (by omega), Bool.false_and]
  have h4 := uShl (x := x >>> a &&& 1) (a := i) (by omega) hb
  have h5 := uOr (le64 (n := i) (by omega) (dn_lt us a i)) hb
  have hst : dn us a (i + 1) = dn us a i ||| (x >>> a &&& 1) <<< i := by
    show dn us a i ||| ((us.getD i 0) >>> a &&& 1) <<< i = _
    rw [ex]
  refine awp_seq ?_
  refine awp_block ?_
  refine awp_seq ?_
  refine awp_run rfl (by simp only [fwA, seval, gfw, bx, dx, bitfw, gx] <;> rfl) ?_
  refine awp_run rfl (by simp only [fwA, seval, gfw, bx, dx, bitfw, hs, h3, h4, h5] <;> rfl) ?_
  refine awp_run rfl (by simp only [fwA, seval] <;> rfl) ?_
  refine ⟨i + 1, by omega, by omega, ?_, rfl, rfl⟩
  rw [hst]
  simp only [fwA, seval, gfw, hwi]
end Go.Proofs.YteicbhkimepbaaaGreatDoor
namespace Go.Proofs.YteicbhkimepbaaaGreatDoor
set_option linter.unusedVariables false
set_option linter.unusedSimpArgs false
set_option maxRecDepth 100000
open Go.RowKit Fw
def T64 : List Int := Lib.deBruijn64tab.map fun z : Nat => (z : Int)
def Tab64 (Γ : Nat → PV) : Prop := Γ 0 = .cptr (T64.map fun z => .int .u8 z)
theorem getD_some {l : List Nat} {q k : Nat} (h : q < l.length) (e : l.getD q 0 = k) : l[q]? = some k := by
  rw [List.getD_eq_getElem?_getD, List.getElem?_eq_getElem h] at e
  rw [List.getElem?_eq_getElem h]
  exact congrArg some e
theorem wrap64 {k : Nat} (h : k < 64) : IntKind.i64.wrap (k : Int) = (k : Int) := wrapId ⟨by omega, by omega⟩
theorem c149 (Γ : Nat → PV) (hΓ : Tab64 Γ) (x : Nat) (hx : x < 2 ^ 64) : Gives Tryz.prog Γ 149 [.int .u64 (x : Int)] (.int .i64 ((Lib.ctz 64 x : Nat) : Int)) := by
  have hΓ' : Γ 0 = .cptr (T64.map fun z => .int .u8 z) := hΓ
  refine fn_of_awp Tryz.func149 rfl (by simp [Tryz.f149]) rfl fun H => ?_
  refine awp_seq ?_
  refine awp_run rfl (by simp only [fwA, seval] <;> rfl) ?_
  refine awp_seq ?_
  refine awp_seq ?_
  by_cases h0 : x = 0
  · subst h0
    refine awp_run rfl (by simp only [fwA, seval] <;> rfl) ?_
    refine awp_cond (b := true) (by simp [alook, aput, ev]) ?_
    refine awp_seq ?_
    refine awp_run rfl (by simp only [fwA, seval] <;> rfl) ?_
    refine awp_ret ?_
    exact gives_end0 (.inl rfl) rfl
  have h0' : ¬ (x : Int) = 0 := by omega
  refine awp_run rfl (by simp only [fwA, seval, gfw, bx, bitfw, Nat.mul_one, h0'] <;> rfl) ?_
  refine awp_cond (b := false) (by simp [alook, aput, ev]) (awp_skip ?_)
  obtain ⟨hlow, hk⟩ := Lib.lowest_bit 64 x h0 hx
  obtain ⟨hi, htab⟩ := Lib.deBruijn64_at _ hk
  generalize Lib.ctz 64 x = k at *
  have e1 : IntKind.u64.wrap (0 - (x : Int)) = ((2 ^ 64 - x : Nat) : Int) := by
    have : IntKind.u64.wrap (0 - (x : Int)) = (0 - (x : Int)) % 18446744073709551616 := by simp [IntKind.wrap, IntKind.signed, IntKind.bits]
    rw [this]; omega
  have e2 := uAnd (x := x) (y := 2 ^ 64 - x) hx
  rw [hlow] at e2
  have e3 : IntKind.u64.wrap (((2 ^ k : Nat) : Int) * 285870213051353865) = ((2 ^ k * 285870213051353865 % 18446744073709551616 : Nat) : Int) := by
    have : IntKind.u64.wrap (((2 ^ k : Nat) : Int) * 285870213051353865) = (((2 ^ k : Nat) : Int) * 285870213051353865) % 18446744073709551616 := by simp [IntKind.wrap, IntKind.signed, IntKind.bits]
    rw [this]; omega
  have hlt : 2 ^ k * 285870213051353865 % 18446744073709551616 < 2 ^ 64 := Nat.mod_lt _ (by decide)
  have e4 := uShr (x := 2 ^ k * 285870213051353865 % 18446744073709551616) 58 hlt
  rw [Nat.shiftRight_eq_div_pow] at e4
  have e6 : (2 : Nat) ^ 58 = 288230376151711744 := by decide
  rw [e6] at e4
  have hlen : Lib.deBruijn64tab.length = 64 := by decide
  generalize hq : 2 ^ k * 285870213051353865 % 18446744073709551616 / 288230376151711744 = q at hi htab e4
  have gt : Lib.deBruijn64tab[q]? = some k := getD_some (by rw [hlen]; exact hi) htab
  have gt2 : T64[q]? = some (k : Int) := by unfold T64; rw [List.getElem?_map, gt]; rfl
  have hkw : IntKind.i64.wrap (k : Int) = (k : Int) := wrap64 hk
  have hi2 : (q : Int) < ((64 : Nat) : Int) := Int.ofNat_lt.2 hi
  refine awp_seq ?_
  refine awp_run rfl (by simp only [fwA, seval, gfw, bx, bitfw, Nat.mul_one, List.getElem?_drop, Nat.add_zero, hΓ', e1, e2, e3, e4, gt2, hkw, hi2, (show (q : Int) < 64 from hi2)] <;> rfl) ?_
  refine awp_ret ?_
  exact gives_end0 (.inl rfl) rfl
def bitsP (x : Nat) : List (List PV) := (bitsOf x).map fun j => [.int .i64 ((j : Nat) : Int)]
theorem bitsP_len (x : Nat) : (bitsP x).length = (bitsOf x).length := by simp [bitsP]
theorem c148 (Γ : Nat → PV) (hΓ : Tab64 Γ) (b : Nat) (x : Nat) (hx : x < 2 ^ 64) : AIterM Tryz.prog Γ 148 [.ptr b 0] b (.box [.int .u64 (x : Int)]) 1 (bitsP x) := by
  intro lb n0 Inv Stop hI Hb hInv hb0
  refine acalls_of_awp Tryz.func148 rfl (by simp [Tryz.f148]) fun hbd => ?_
  obtain ⟨hn0, hcl, rec, cs, hl0, hbl, hpar, _⟩ := hI 0 Hb hInv
  have hbn : b < n0 := by have := (List.getElem?_eq_some_iff.1 hb0).1; omega
  refine awp_block ?_
  refine awp_for [0, 1] (fun s : Nat × Nat × List Blk => [.yld lb, .ptr b 0]) (fun s => s.2.2) (fun s => (bitsOf s.2.1).length) (fun s => s.2.1 < 2 ^ 64 ∧ s.1 ≤ (bitsOf x).length ∧ bitsOf s.2.1 = (bitsOf x).drop s.1 ∧ Inv s.1 s.2.2 ∧ s.2.2[b]? = some (.box [.int .u64 ((s.2.1 : Nat) : Int)])) (0, x, Hb) rfl rfl ⟨hx, Nat.zero_le _, rfl, hInv, hb0⟩ fun s hs => ?_
  obtain ⟨k, y, Hk⟩ := s
  obtain ⟨hy, hkx, hbits, hInvk, hbk⟩ := hs
  simp only at hy hkx hbits hInvk hbk ⊢
  obtain ⟨hnk, hclk, reck, csk, hlk, _, hpark, hround⟩ := hI k Hk hInvk
  refine awp_seq ?_
  refine awp_seq ?_
  by_cases h0 : y = 0
  · have h0' : (y : Int) = 0 := by omega
    subst h0
    refine awp_run rfl (by simp only [fwA, seval, gfw, bx, bitfw, Nat.mul_one, hbk] <;> rfl) ?_
    refine awp_cond (b := false) (by simp [alook, aput, ev]) ?_
    refine awp_bd fun hbd' => ?_
    refine awp_exit ?_
    simp only [Post.block, Post.then, ↓reduceIte]
    refine calls_at (p := .tup []) (.inr rfl) hbd' rfl rfl ?_ ?_
    · omega
    · rw [bitsOf_zero] at hbits
      have hkl : (bitsOf x).length ≤ k := by
        have := congrArg List.length hbits
        rw [List.length_drop, List.length_nil] at this; omega
      have hk : k = (bitsOf x).length := by omega
      exact .inl (by rw [bitsP_len, ← hk]; exact hInvk)
  have h0' : ¬ (y : Int) = 0 := by omega
  refine awp_run rfl (by simp only [fwA, seval, gfw, bx, bitfw, Nat.mul_one, hbk, h0'] <;> rfl) ?_
  refine awp_cond (b := true) (by simp [alook, aput, ev]) (awp_skip ?_)
  have hstep := bitsOf_step h0 hy
  have hkl : k < (bitsOf x).length := by
    refine Nat.lt_of_not_le fun hle => ?_
    rw [List.drop_of_length_le hle, hstep] at hbits
    cases hbits
  have hdr := List.drop_eq_getElem_cons hkl
  rw [hstep, hdr] at hbits
  injection hbits with hc1 hc2
  have h70 := c149 Γ hΓ y hy
  have hgx : (bitsP x)[k]? = some [.int .i64 ((Lib.ctz 64 y : Nat) : Int)] := by
    unfold bitsP
    rw [List.getElem?_map, List.getElem?_eq_getElem hkl, ← hc1]; rfl
  have hy1 : IntKind.u64.wrap ((y : Int) - 1) = ((y - 1 : Nat) : Int) := by
    have e : (y : Int) - 1 = ((y - 1 : Nat) : Int) := by omega
    rw [e, uWrapN (by omega)]
  have hand := uAnd (x := y) (y := y - 1) hy
  generalize Lib.ctz 64 y = c at *
  refine awp_seq ?_
  refine awp_block ?_
  refine awp_seq ?_
  refine awp_region rfl ?_
  refine aops_run 2 (by simp only [fwA, seval, gfw, bx, bitfw, Nat.mul_one, hbk] <;> rfl) ?_
  refine aops_fn rfl rfl rfl en149 h70 ?_
  have hr := hround _ [] hgx
  rw [List.append_nil] at hr
  refine aops_one rfl (os_yield rfl rfl hlk (by rw [hpark]; rfl) (hr.mono fun bo H' hq => ?_))
  obtain ⟨Hb', rfl, hkeep, hq⟩ := hq
  rw [List.append_nil]
  refine aops_run 1 (by simp only [fwA, seval, gfw, bx, bitfw, Nat.mul_one] <;> rfl) ?_
  refine aops_end ?_
  refine awp_cond (by simp only [fwA, seval] <;> rfl) ?_
  rw [hbk] at hkeep
  cases bo with
  | false =>
    simp only [Bool.false_eq_true, ↓reduceIte] at hq
    refine awp_bd fun hbd' => ?_
    refine awp_ret ?_
    simp only [Post.block, Post.then]
    refine calls_at (p := .tup []) (.inl rfl) hbd' rfl rfl ?_ ?_
    · omega
    · exact .inr hq
  | true =>
    simp only [↓reduceIte] at hq
    refine awp_skip ?_
    obtain ⟨hn1, hcl1, _⟩ := hI (k + 1) Hb' hq
    refine awp_run rfl (by simp only [fwA, seval, gfw, bx, bitfw, Nat.mul_one, hkeep, hy1, hand] <;> rfl) ?_
    refine ⟨(k + 1, y &&& (y - 1), Hb'.set b (.box [.int .u64 ((y &&& (y - 1) : Nat) : Int)])), ?_, ⟨and_pred_lt hy, by simp only; omega, hc2, hcl1 _ rfl, ?_⟩, rfl, rfl, rfl⟩
    · simp only [hstep, List.length_cons]; omega
    · simp only
      rw [List.getElem?_set_self (by omega)]
theorem c131 (Γ : Nat → PV) (x : Nat) (H : List Blk) : ACalls Tryz.prog Γ 131 [.int .u64 (x : Int)] H (fun p H' => p = .func (.func 148) [] [.ptr H.length 0] ∧ H' = H ++ [.box [.int .u64 (x : Int)]]) := by
  refine acalls_of_awp Tryz.func131 rfl (by simp [Tryz.f131]) fun hbd => ?_
  refine awp_seq ?_
  refine awp_run rfl (by simp only [fwA, seval] <;> rfl) ?_
  refine awp_seq ?_
  refine awp_run rfl (by simp only [fwA, seval] <;> rfl) ?_
  refine awp_bd fun hbd' => ?_
  refine awp_ret ?_
  exact calls_at (p := .func (.func 148) [] [.ptr H.length 0]) (.inl rfl) hbd' rfl (by simp [PV.bd, PV.bdL]) (by simp) ⟨rfl, rfl⟩
end Go.Proofs.YteicbhkimepbaaaGreatDoor
namespace Go.Proofs.YteicbhkimepbaaaGreatDoor
set_option linter.unusedVariables false
set_option linter.unusedSimpArgs false
set_option maxRecDepth 100000
open Go.RowKit Fw
def oI (o : Option Nat) : Int := match o with | some c => (c : Int) | none => -1
theorem bitsP_at {x i : Nat} {q : List PV} (h : (bitsP x)[i]? = some q) : ∃ c, (bitsOf x)[i]? = some c ∧ q = [.int .i64 ((c : Nat) : Int)] := by
  unfold bitsP at h
  rw [List.getElem?_map] at h
  obtain ⟨c, h1, h2⟩ := Option.map_eq_some_iff.1 h
  exact ⟨c, h1, h2.symm⟩
theorem find_at {l : List Nat} {p : Nat → Bool} {i c : Nat} (h : l[i]? = some c) (hp : p c = true) (hn : ∀ j d, j < i → l[j]? = some d → p d = false) : l.find? p = some c := by
  rw [List.find?_eq_some_iff_getElem]
  obtain ⟨hi, rfl⟩ := List.getElem?_eq_some_iff.1 h
  refine ⟨hp, i, hi, rfl, fun j hj => ?_⟩
  rw [hn j _ hj (List.getElem?_eq_getElem (by omega))]; rfl
theorem find_none {l : List Nat} {p : Nat → Bool} (hn : ∀ j d, j < l.length → l[j]? = some d → p d = false) : l.find? p = none := by
  rw [List.find?_eq_none]
  intro d hd
  obtain ⟨j, hj⟩ := List.getElem?_of_mem hd
  rw [hn j d (List.getElem?_eq_some_iff.1 hj).1 hj]; simp
theorem dec_zero (x : Nat) : decide ((x : Int) = 0) = decide (x = 0) := decide_eq_decide.2 (by omega)
set_option maxHeartbeats 1000000 in
theorem c115 (Γ : Nat → PV) (hΓ : Tab64 Γ) (ns : List (List UInt8)) (us : List Nat) (hn : us.length ≤ 64) (hi : Inn us.length us) (a b : Nat) (ha : a < us.length) (hb : b < us.length) : Gives Tryz.prog Γ 115 [.agg [.vec (ns.map S1) false, .vec (us.map U1) false], .int .i64 (a : Int), .int .i64 (b : Int)] (.int .i64 (oI (jn us.length (lq us) a b))) := by
  have hw : W64 us := fun x hx => le64 hn (hi x hx)
  obtain ⟨x, gx, hx, ex⟩ := getW hw ha
  obtain ⟨y, gy, hy, ey⟩ := getW hw hb
  have hxn := getD_lt hi a
  rw [ex] at hxn
  have hand := uAnd (x := x) (y := y) hx
  have hYn : x &&& y < 2 ^ us.length := Nat.lt_of_le_of_lt Nat.and_le_left hxn
  have hjp := joinP_eq (u := us) (a := a) (b := b) hn hi
  unfold joinP at hjp
  rw [ex, ey] at hjp
  rw [← hjp]
  generalize hYd : x &&& y = Y at *
  have hY : Y < 2 ^ 64 := le64 hn hYn
  refine fn_of_awp Tryz.func115 rfl (by simp [Tryz.f115]) rfl fun H => ?_
  refine awp_seq ?_
  refine awp_run rfl (by simp only [fwA, seval, bx] <;> rfl) ?_
  refine awp_seq ?_
  refine awp_drawn [0, 4, 0, 0, 4, 0, 4, 0, 0, 4, 0, 3, 2] [0, 1, 0, 7, 15, 0, 32, 0, 224, 480, 1023, 0, 4095] mixed rfl (by kernel_rfl) ?_
  refine dops_run 11 (by simp only [fwA, seval, gfw, bx, dx, bitfw, gx, gy, hand] <;> rfl) ?_
  refine dops_make1 rfl rfl (by simp only [fwA, seval, bx] <;> rfl) (by simp [View.vw, List.take_append]) ?_
  refine dops_run 1 (by simp only [fwA, seval, gfw, bx, dx, bitfw] <;> rfl) ?_
  refine dops_end ?_
  refine awp_seq ?_
  refine awp_seq ?_
  refine awp_region rfl ?_
  refine aops_run 1 (by simp only [fwA, seval, gfw, bx, dx, bitfw] <;> rfl) ?_
  refine aops_call rfl rfl rfl en131 ((c131 Γ Y _).mono fun p H' hp => ?_)
  obtain ⟨rfl, rfl⟩ := hp
  refine aops_end ?_
  refine awp_block ?_
  refine awp_heap (H' := H ++ [.box (laC ns us), .box [.int .i64 0], .box [.int .u64 ((Y : Nat) : Int)], .box [.int .u64 ((Y : Nat) : Int)]]) (by simp [laC]) ?_
  refine awp_rangeFuncM (gf := 148) (caps := [.ptr (H.length + 3) 0]) (b := H.length + 3) (by simp only [fwA, seval, List.length_append, List.length_cons, List.length_nil] <;> rfl) en148 (c148 Γ hΓ (H.length + 3) Y hY) (by rw [Fw.get_at]; rfl) (by simp [Tryz.f115])
    (fun i Hf => (∀ j c, j < i → (bitsOf Y)[j]? = some c → decide (andn Y (us.getD c 0) = 0) = false) ∧ ∃ cs, PV.plainL cs = true ∧ Hf = H ++ [.box (laC ns us), .box [.int .i64 0], .box [.int .u64 ((Y : Nat) : Int)], .box cs])
    (fun c Hf => c = .ret ∧ ∃ (r : Nat) (cs : List PV), (bitsOf Y).find? (fun c => decide (andn Y (us.getD c 0) = 0)) = some r ∧ Hf = H ++ [.box (laC ns us), .box [.int .i64 (r : Int)], .box [.int .u64 ((Y : Nat) : Int)], .box cs])
    ⟨fun j c hj => by omega, _, rfl, rfl⟩ ?_ ?_ ?_ ?_
  · rintro i Hf ⟨hno, cs, hcs, rfl⟩
    refine ⟨by simp, fun cs' hcs' => ⟨hno, cs', hcs', ?_⟩⟩
    rw [Fw.set_at]; rfl
  · rintro i q Hf L L' ro hq ⟨hno, cs, hcs, rfl⟩ hL hL' hbd hbd'
    obtain ⟨c, hc, rfl⟩ := bitsP_at hq
    have hct : Y.testBit c = true := (mem_bitsOf hY).1 (List.mem_of_getElem? hc)
    have hcn : c < us.length := bit_lt hYn hct
    obtain ⟨z, gz, hz, ez⟩ := getW hw hcn
    have hnj := uAndn Y z
    have hdz := dec_zero (andn Y z)
    refine awp_less (A' := [(3, .ptr H.length 0), (6, .ptr (H.length + 1) 0), (7, .ptr (H.length + 2) 0), (22, .int .i64 (c : Int))]) (fun t => zip_look [3, 6, 7, 22] [.ptr H.length 0, .ptr (H.length + 1) 0, .ptr (H.length + 2) 0, .int .i64 (c : Int)] t _ (by simp only [fwA, seval, List.length_append, List.length_cons, List.length_nil] <;> rfl)) ?_
    refine awp_run rfl (by simp only [fwA, seval] <;> rfl) ?_
    refine ⟨rfl, H ++ [.box (laC ns us), .box [.int .i64 0], .box [.int .u64 ((Y : Nat) : Int)], .box cs], [], by simp, by simp, ?_⟩
    rw [List.append_nil]
    have g0 : (H ++ [.box (laC ns us), .box [.int .i64 0], .box [.int .u64 ((Y : Nat) : Int)], .box cs] ++ L')[H.length]? = some (.box (laC ns us)) := by rw [List.append_assoc, Fw.get_at0]; rfl
    have g1 : (H ++ [.box (laC ns us), .box [.int .i64 0], .box [.int .u64 ((Y : Nat) : Int)], .box cs] ++ L')[H.length + 1]? = some (.box [.int .i64 0]) := by rw [List.append_assoc, Fw.get_at]; rfl
    have g2 : (H ++ [.box (laC ns us), .box [.int .i64 0], .box [.int .u64 ((Y : Nat) : Int)], .box cs] ++ L')[H.length + 2]? = some (.box [.int .u64 (Y : Int)]) := by rw [List.append_assoc, Fw.get_at]; rfl
    have hbdH : ∀ B ∈ H, B.bd (H.length + 4 + L'.length) = true := fun B hB => by
      have := hbd B (by simp [hB])
      rw [List.length_append, ← hL'] at this
      simpa using this
    generalize hK : H ++ [.box (laC ns us), .box [.int .i64 0], .box [.int .u64 ((Y : Nat) : Int)], .box cs] ++ L' = K at g0 g1 g2 ⊢
    unfold laC at g0
    refine awp_block ?_
    refine awp_seq ?_
    refine awp_drun [1, 0, 1, 0, 0, 1, 0, 0] [0, 0, 2, 0, 14, 30, 63, 127] mixed rfl (by kernel_rfl) (by simp only [fwA, seval, gfw, bx, dx, bitfw, g0, g1, g2, gz, hnj, hdz] <;> rfl) ?_
    refine awp_cond (by simp only [fwA, seval] <;> rfl) ?_
    by_cases hz0 : andn Y z = 0
    · simp only [hz0, decide_true, ↓reduceIte]
      refine awp_seq ?_
      refine awp_run rfl (by simp only [fwA, seval, gfw, bx, dx, bitfw, g1] <;> rfl) ?_
      refine awp_ret ?_
      refine ⟨H ++ [.box (laC ns us), .box [.int .i64 (c : Int)], .box [.int .u64 ((Y : Nat) : Int)], .box cs], [], by simp, ?_, ?_, ?_, by first | exact rfl | exact trivial, c, cs, find_at hc (by rw [ez]; exact decide_eq_true hz0) hno, rfl⟩
      · rw [← hK, List.append_assoc, Fw.set_at]; simp
      · intro B hB
        simp only [List.length_append, List.length_cons, List.length_nil]
        rcases List.mem_append.1 hB with hB | hB
        · exact hbdH B hB
        · simp only [List.mem_cons, List.not_mem_nil, or_false] at hB
          rcases hB with rfl | rfl | rfl | rfl
          · simp [Blk.bd, PV.bdL, PV.bd, laC, S1, U1]
          · rfl
          · rfl
          · exact PV.bdL_mono (Nat.zero_le _) _ hcs
      · rw [Fw.get_at, Fw.get_at]; rfl
    · simp only [hz0, decide_false, Bool.false_eq_true, ↓reduceIte]
      refine awp_skip ?_
      refine ⟨H ++ [.box (laC ns us), .box [.int .i64 0], .box [.int .u64 ((Y : Nat) : Int)], .box cs], [], by simp, by rw [← hK]; simp, ?_, rfl, fun j d hj hd => ?_, cs, hcs, rfl⟩
      · intro B hB
        simp only [List.length_append, List.length_cons, List.length_nil]
        rcases List.mem_append.1 hB with hB | hB
        · exact hbdH B hB
        · simp only [List.mem_cons, List.not_mem_nil, or_false] at hB
          rcases hB with rfl | rfl | rfl | rfl
          · simp [Blk.bd, PV.bdL, PV.bd, laC, S1, U1]
          · rfl
          · rfl
          · exact PV.bdL_mono (Nat.zero_le _) _ hcs
      · by_cases hji : j = i
        · subst hji; rw [hc] at hd; cases hd; rw [ez]; exact decide_eq_false hz0
        · exact hno j d (by omega) hd
  · rintro Hf B ⟨hno, cs, hcs, rfl⟩
    have hf : (bitsOf Y).find? (fun c => decide (andn Y (us.getD c 0) = 0)) = none := find_none fun j d hj hd => hno j d (by rw [bitsP_len]; exact hj) hd
    rw [hf]
    simp only [Post.block, Post.then]
    refine awp_heap (H' := H ++ [.box (laC ns us), .box [.int .i64 0], .box [.int .u64 ((Y : Nat) : Int)], .box cs, .dfr, B]) (by simp) ?_
    refine awp_seq ?_
    refine awp_run rfl (by simp only [fwA, seval, bx] <;> rfl) ?_
    refine awp_ret ?_
    refine ⟨.inl rfl, by simp, fun b hb => ?_, ?_, _, rfl⟩
    · simp only [List.mem_singleton] at hb
      subst hb
      exact ⟨by rw [List.length_append, Fw.get_at]; rfl, by simp⟩
    · simp [oI, ares, aresL, ares1, alook, Tryz.f115, rd, ev, ti3]
  · rintro c Hf B ⟨rfl, r, cs, hr, rfl⟩ _
    rw [hr]
    refine awp_heap (H' := H ++ [.box (laC ns us), .box [.int .i64 (r : Int)], .box [.int .u64 ((Y : Nat) : Int)], .box cs, .dfr, B]) (by simp) ?_
    refine awp_ret ?_
    refine ⟨.inl rfl, by simp, fun b hb => ?_, ?_, _, rfl⟩
    · simp only [List.mem_singleton] at hb
      subst hb
      exact ⟨by rw [List.length_append, Fw.get_at]; rfl, by simp⟩
    · simp [oI, aput, ares, aresL, ares1, alook, Tryz.f115, rd, ev, ti3]
set_option maxHeartbeats 1000000 in
theorem c119 (Γ : Nat → PV) (hΓ : Tab64 Γ) (ns : List (List UInt8)) (us : List Nat) (hn : us.length ≤ 64) (hw : W64 us) (a b : Nat) (ha : a < us.length) (hb : b < us.length) : Gives Tryz.prog Γ 119 [.agg [.vec (ns.map S1) false, .vec (us.map U1) false], .int .i64 (a : Int), .int .i64 (b : Int)] (.int .i64 (oI (jn us.length (tr (lq us)) a b))) := by
  have hda := le64 hn (dn_lt us a us.length)
  have h61a := c130 Γ ns us hw hn a
  have h61b := c130 Γ ns us hw hn b
  have hand := uAnd (x := dn us a us.length) (y := dn us b us.length) hda
  have hYn : dn us a us.length &&& dn us b us.length < 2 ^ us.length := Nat.lt_of_le_of_lt Nat.and_le_left (dn_lt us a us.length)
  have hjp := meetP_eq (u := us) (a := a) (b := b) rfl hn
  unfold meetP at hjp
  rw [← hjp]
  generalize hYd : dn us a us.length &&& dn us b us.length = Y at *
  have hY : Y < 2 ^ 64 := le64 hn hYn
  refine fn_of_awp Tryz.func119 rfl (by simp [Tryz.f119]) rfl fun H => ?_
  refine awp_seq ?_
  refine awp_run rfl (by simp only [fwA, seval, bx] <;> rfl) ?_
  refine awp_seq ?_
  refine awp_drawn [4, 0, 0, 4, 0, 0, 0, 3, 2] [0, 0, 3, 0, 0, 31, 63, 0, 255] mixed rfl (by kernel_rfl) ?_
  refine dops_run 2 (by simp only [fwA, seval, gfw, bx, dx, bitfw] <;> rfl) ?_
  refine dops_fn rfl rfl rfl rfl en130 h61a ?_
  refine dops_run 2 (by simp only [fwA, seval, gfw, bx, dx, bitfw] <;> rfl) ?_
  refine dops_fn rfl rfl rfl rfl en130 h61b ?_
  refine dops_run 1 (by simp only [fwA, seval, gfw, bx, dx, bitfw, hand] <;> rfl) ?_
  refine dops_make1 rfl rfl (by simp only [fwA, seval, bx] <;> rfl) (by simp [View.vw, List.take_append]) ?_
  refine dops_run 1 (by simp only [fwA, seval, gfw, bx, dx, bitfw] <;> rfl) ?_
  refine dops_end ?_
  refine awp_seq ?_
  refine awp_seq ?_
  refine awp_region rfl ?_
  refine aops_run 1 (by simp only [fwA, seval, gfw, bx, dx, bitfw] <;> rfl) ?_
  refine aops_call rfl rfl rfl en131 ((c131 Γ Y _).mono fun p H' hp => ?_)
  obtain ⟨rfl, rfl⟩ := hp
  refine aops_end ?_
  refine awp_block ?_
  refine awp_heap (H' := H ++ [.box (laC ns us), .box [.int .i64 0], .box [.int .u64 ((Y : Nat) : Int)], .box [.int .u64 ((Y : Nat) : Int)]]) (by simp [laC]) ?_
  refine awp_rangeFuncM (gf := 148) (caps := [.ptr (H.length + 3) 0]) (b := H.length + 3) (by simp only [fwA, seval, List.length_append, List.length_cons, List.length_nil] <;> rfl) en148 (c148 Γ hΓ (H.length + 3) Y hY) (by rw [Fw.get_at]; rfl) (by simp [Tryz.f119])
    (fun i Hf => (∀ j c, j < i → (bitsOf Y)[j]? = some c → decide (andn Y (dn us c us.length) = 0) = false) ∧ ∃ cs, PV.plainL cs = true ∧ Hf = H ++ [.box (laC ns us), .box [.int .i64 0], .box [.int .u64 ((Y : Nat) : Int)], .box cs])
    (fun c Hf => c = .ret ∧ ∃ (r : Nat) (cs : List PV), (bitsOf Y).find? (fun c => decide (andn Y (dn us c us.length) = 0)) = some r ∧ Hf = H ++ [.box (laC ns us), .box [.int .i64 (r : Int)], .box [.int .u64 ((Y : Nat) : Int)], .box cs])
    ⟨fun j c hj => by omega, _, rfl, rfl⟩ ?_ ?_ ?_ ?_
  · rintro i Hf ⟨hno, cs, hcs, rfl⟩
    refine ⟨by simp, fun cs' hcs' => ⟨hno, cs', hcs', ?_⟩⟩
    rw [Fw.set_at]; rfl
  · rintro i q Hf L L' ro hq ⟨hno, cs, hcs, rfl⟩ hL hL' hbd hbd'
    obtain ⟨c, hc, rfl⟩ := bitsP_at hq
    have hct : Y.testBit c = true := (mem_bitsOf hY).1 (List.mem_of_getElem? hc)
    have hcn : c < us.length := bit_lt hYn hct
    have h61c := c130 Γ ns us hw hn c
    obtain ⟨z, ez⟩ : ∃ z, dn us c us.length = z := ⟨_, rfl⟩
    rw [ez] at h61c
    have hnj := uAndn Y z
    have hdz := dec_zero (andn Y z)
    refine awp_less (A' := [(3, .ptr H.length 0), (6, .ptr (H.length + 1) 0), (7, .ptr (H.length + 2) 0), (18, .int .i64 (c : Int))]) (fun t => zip_look [3, 6, 7, 18] [.ptr H.length 0, .ptr (H.length + 1) 0, .ptr (H.length + 2) 0, .int .i64 (c : Int)] t _ (by simp only [fwA, seval, List.length_append, List.length_cons, List.length_nil] <;> rfl)) ?_
    refine awp_run rfl (by simp only [fwA, seval] <;> rfl) ?_
    refine ⟨rfl, H ++ [.box (laC ns us), .box [.int .i64 0], .box [.int .u64 ((Y : Nat) : Int)], .box cs], [], by simp, by simp, ?_⟩
    rw [List.append_nil]
    have g0 : (H ++ [.box (laC ns us), .box [.int .i64 0], .box [.int .u64 ((Y : Nat) : Int)], .box cs] ++ L')[H.length]? = some (.box (laC ns us)) := by rw [List.append_assoc, Fw.get_at0]; rfl
    have g1 : (H ++ [.box (laC ns us), .box [.int .i64 0], .box [.int .u64 ((Y : Nat) : Int)], .box cs] ++ L')[H.length + 1]? = some (.box [.int .i64 0]) := by rw [List.append_assoc, Fw.get_at]; rfl
    have g2 : (H ++ [.box (laC ns us), .box [.int .i64 0], .box [.int .u64 ((Y : Nat) : Int)], .box cs] ++ L')[H.length + 2]? = some (.box [.int .u64 (Y : Int)]) := by rw [List.append_assoc, Fw.get_at]; rfl
    have hbdH : ∀ B ∈ H, B.bd (H.length + 4 + L'.length) = true := fun B hB => by
      have := hbd B (by simp [hB])
      rw [List.length_append, ← hL'] at this
      simpa using this
    generalize hK : H ++ [.box (laC ns us), .box [.int .i64 0], .box [.int .u64 ((Y : Nat) : Int)], .box cs] ++ L' = K at g0 g1 g2 ⊢
    unfold laC at g0
    refine awp_block ?_
    refine awp_seq ?_
    refine awp_drawn [1, 1, 0, 0, 0, 0] [0, 0, 0, 6, 15, 31] mixed rfl (by kernel_rfl) ?_
    refine dops_run 3 (by simp only [fwA, seval, gfw, bx, dx, bitfw, g0, g1, g2, hnj, hdz] <;> rfl) ?_
    refine dops_fn rfl (by simp only [fwA, seval] <;> rfl) rfl rfl en130 h61c ?_
    refine dops_run 2 (by simp only [fwA, seval, gfw, bx, dx, bitfw, g0, g1, g2, hnj, hdz] <;> rfl) ?_
    refine dops_end ?_
    refine awp_cond (by simp only [fwA, seval] <;> rfl) ?_
    by_cases hz0 : andn Y z = 0
    · simp only [hz0, decide_true, ↓reduceIte]
      refine awp_seq ?_
      refine awp_run rfl (by simp only [fwA, seval, gfw, bx, dx, bitfw, g1] <;> rfl) ?_
      refine awp_ret ?_
      refine ⟨H ++ [.box (laC ns us), .box [.int .i64 (c : Int)], .box [.int .u64 ((Y : Nat) : Int)], .box cs], [], by simp, ?_, ?_, ?_, by first | exact rfl | exact trivial, c, cs, find_at hc (by rw [ez]; exact decide_eq_true hz0) hno, rfl⟩
      · rw [← hK, List.append_assoc, Fw.set_at]; simp
      · intro B hB
        simp only [List.length_append, List.length_cons, List.length_nil]
        rcases List.mem_append.1 hB with hB | hB
        · exact hbdH B hB
        · simp only [List.mem_cons, List.not_mem_nil, or_false] at hB
          rcases hB with rfl | rfl | rfl | rfl
          · simp [Blk.bd, PV.bdL, PV.bd, laC, S1, U1]
          · rfl
          · rfl
          · exact PV.bdL_mono (Nat.zero_le _) _ hcs
      · rw [Fw.get_at, Fw.get_at]; rfl
    · simp only [hz0, decide_false, Bool.false_eq_true, ↓reduceIte]
      refine awp_skip ?_
      refine ⟨H ++ [.box (laC ns us), .box [.int .i64 0], .box [.int .u64 ((Y : Nat) : Int)], .box cs], [], by simp, by rw [← hK]; simp, ?_, rfl, fun j d hj hd => ?_, cs, hcs, rfl⟩
      · intro B hB
        simp only [List.length_append, List.length_cons, List.length_nil]
        rcases List.mem_append.1 hB with hB | hB
        · exact hbdH B hB
        · simp only [List.mem_cons, List.not_mem_nil, or_false] at hB
          rcases hB with rfl | rfl | rfl | rfl
          · simp [Blk.bd, PV.bdL, PV.bd, laC, S1, U1]
          · rfl
          · rfl
          · exact PV.bdL_mono (Nat.zero_le _) _ hcs
      · by_cases hji : j = i
        · subst hji; rw [hc] at hd; cases hd; rw [ez]; exact decide_eq_false hz0
        · exact hno j d (by omega) hd
  · rintro Hf B ⟨hno, cs, hcs, rfl⟩
    have hf : (bitsOf Y).find? (fun c => decide (andn Y (dn us c us.length) = 0)) = none := find_none fun j d hj hd => hno j d (by rw [bitsP_len]; exact hj) hd
    rw [hf]
    simp only [Post.block, Post.then]
    refine awp_heap (H' := H ++ [.box (laC ns us), .box [.int .i64 0], .box [.int .u64 ((Y : Nat) : Int)], .box cs, .dfr, B]) (by simp) ?_
    refine awp_seq ?_
    refine awp_run rfl (by simp only [fwA, seval, bx] <;> rfl) ?_
    refine awp_ret ?_
    refine ⟨.inl rfl, by simp, fun b hb => ?_, ?_, _, rfl⟩
    · simp only [List.mem_singleton] at hb
      subst hb
      exact ⟨by rw [List.length_append, Fw.get_at]; rfl, by simp⟩
    · simp [oI, ares, aresL, ares1, alook, Tryz.f119, rd, ev, ti3]
  · rintro c Hf B ⟨rfl, r, cs, hr, rfl⟩ _
    rw [hr]
    refine awp_heap (H' := H ++ [.box (laC ns us), .box [.int .i64 (r : Int)], .box [.int .u64 ((Y : Nat) : Int)], .box cs, .dfr, B]) (by simp) ?_
    refine awp_ret ?_
    refine ⟨.inl rfl, by simp, fun b hb => ?_, ?_, _, rfl⟩
    · simp only [List.mem_singleton] at hb
      subst hb
      exact ⟨by rw [List.length_append, Fw.get_at]; rfl, by simp⟩
    · simp [oI, aput, ares, aresL, ares1, alook, Tryz.f119, rd, ev, ti3]
end Go.Proofs.YteicbhkimepbaaaGreatDoor
namespace Go.Proofs.YteicbhkimepbaaaGreatDoor
set_option linter.unusedVariables false
set_option linter.unusedSimpArgs false
set_option maxRecDepth 100000
open Go.RowKit Fw
def MarksAt (n : Nat) (H : List Blk) (D : List Nat) : Prop := D.Nodup ∧ ∀ b ∈ D, H[b]? = some .dfr ∧ n ≤ b
theorem MarksAt.app {n : Nat} {H : List Blk} {D : List Nat} (h : MarksAt n H D) (L : List Blk) : MarksAt n (H ++ L) D :=
  ⟨h.1, fun b hb => ⟨by rw [List.getElem?_append_left (List.getElem?_eq_some_iff.1 (h.2 b hb).1).1]; exact (h.2 b hb).1, (h.2 b hb).2⟩⟩
theorem MarksAt.push {n : Nat} {H : List Blk} {D : List Nat} (h : MarksAt n H D) (hn : n ≤ H.length) (L : List Blk) : MarksAt n (H ++ .dfr :: L) (H.length :: D) := by
  have h2 := h.app (.dfr :: L)
  refine ⟨List.nodup_cons.2 ⟨fun hb => ?_, h2.1⟩, fun b hb => ?_⟩
  · have := (List.getElem?_eq_some_iff.1 (h.2 _ hb).1).1; omega
  · rcases List.mem_cons.1 hb with rfl | hb
    · exact ⟨by rw [List.getElem?_append_right (Nat.le_refl _), Nat.sub_self]; rfl, hn⟩
    · exact h2.2 b hb
theorem set_self {H : List Blk} {b : Nat} {B : Blk} (h : H[b]? = some B) : H.set b B = H := by
  obtain ⟨h1, rfl⟩ := List.getElem?_eq_some_iff.1 h
  exact List.set_getElem_self h1
set_option maxHeartbeats 2000000 in
theorem c104 (Γ : Nat → PV) (hΓ : Tab64 Γ) (ns : List (List UInt8)) (us : List Nat) (hn : us.length ≤ 64) (hi : Inn us.length us) : Gives Tryz.prog Γ 104 [.agg [.vec (ns.map S1) false, .vec (us.map U1) false]] (.bool (ordB us.length (lq us))) := by
  have hw : W64 us := fun x hx => le64 hn (hi x hx)
  rw [← rows_ord rfl hn hi]
  refine fn_of_awp Tryz.func104 rfl (by simp [Tryz.f104]) rfl fun H => ?_
  refine awp_bd fun hbd0 => ?_
  refine awp_seq ?_
  refine awp_run rfl (by simp only [fwA, seval, bx] <;> rfl) ?_
  refine awp_seq ?_
  refine awp_seq ?_
  refine awp_run rfl (by simp only [fwA, seval, gfw, bx, dx, bitfw] <;> rfl) ?_
  refine awp_block ?_
  refine awp_forD [1, 2, 7, 8, 9] (fun s : Nat × List Blk × List Nat => [.ptr H.length 0, .ptr (H.length + 1) 0, .vec (us.map U1) false, .int .i64 (us.length : Int), .int .i64 (s.1 : Int)]) (fun s => H ++ Blk.box (laC ns us) :: Blk.box [.bool false] :: s.2.1) (fun s => s.2.2) (fun s => us.length - s.1)
    (fun s => s.1 ≤ us.length ∧ (List.range s.1).all (okRow us us.length) = true ∧ MarksAt H.length (H ++ Blk.box (laC ns us) :: Blk.box [.bool false] :: s.2.1) s.2.2) (0, [], []) (by simp only [fwA, seval, gfw] <;> rfl) (by simp [laC]) rfl ⟨Nat.zero_le _, rfl, List.nodup_nil, fun b hb => by cases hb⟩ fun s hs => ?_
  obtain ⟨i, E, Ds⟩ := s
  obtain ⟨hil, hall, hM⟩ := hs
  simp only at hil hall hM ⊢
  have hHl : (H ++ Blk.box (laC ns us) :: Blk.box [.bool false] :: E).length = H.length + 2 + E.length := by simp; omega
  have g0 : (H ++ Blk.box (laC ns us) :: Blk.box [.bool false] :: E)[H.length]? = some (.box (laC ns us)) := by rw [Fw.get_at0]; rfl
  have g1 : (H ++ Blk.box (laC ns us) :: Blk.box [.bool false] :: E)[H.length + 1]? = some (.box [.bool false]) := by rw [Fw.get_at]; rfl
  have hset : (H ++ Blk.box (laC ns us) :: Blk.box [.bool false] :: E).set (H.length + 1) (.box [.bool true]) = H ++ Blk.box (laC ns us) :: Blk.box [.bool true] :: E := by rw [Fw.set_at]; rfl
  have hpre : ∃ L, H ++ Blk.box (laC ns us) :: Blk.box [.bool false] :: E = H ++ L := ⟨_, rfl⟩
  have hres : ∀ (A' : List (Nat × PV)) (K : List Blk) (v : Bool) (D' : List Nat), alook A' 2 = .ptr (H.length + 1) 0 → K[H.length + 1]? = some (.box [.bool v]) → (∃ L, K = H ++ L) → MarksAt H.length K D' →
      ((Exit.ret = .ret ∨ Exit.ret = .normal) ∧ D'.Nodup ∧ (∀ b ∈ D', K[b]? = some .dfr ∧ H.length ≤ b) ∧ ares Tryz.prog Γ A' K Tryz.f104.results.toList = some (.bool v) ∧ ∃ L', K = H ++ L') := fun A' K v D' h2 g hp hm => by
    refine ⟨.inl rfl, hm.1, hm.2, ?_, hp⟩
    simp [ares, aresL, ares1, Tryz.f104, rd, ev, ti4, h2, g]
  have hMt : MarksAt H.length (H ++ Blk.box (laC ns us) :: Blk.box [.bool true] :: E) Ds := ⟨hM.1, fun b hb => by
    obtain ⟨k1, k2⟩ := hM.2 b hb
    refine ⟨?_, k2⟩
    rw [← hset, List.getElem?_set_ne (fun e => by subst e; rw [g1] at k1; cases k1)]; exact k1⟩
  have gt1 : (H ++ Blk.box (laC ns us) :: Blk.box [.bool true] :: E)[H.length + 1]? = some (.box [.bool true]) := by rw [Fw.get_at]; rfl
  have hpret : ∃ L, H ++ Blk.box (laC ns us) :: Blk.box [.bool true] :: E = H ++ L := ⟨_, rfl⟩
  generalize H ++ Blk.box (laC ns us) :: Blk.box [.bool true] :: E = HT at hset hMt gt1 hpret
  have hEl : ∀ L : List Blk, H ++ Blk.box (laC ns us) :: Blk.box [.bool false] :: E ++ L = H ++ Blk.box (laC ns us) :: Blk.box [.bool false] :: (E ++ L) := fun L => by simp
  generalize hHB : H ++ Blk.box (laC ns us) :: Blk.box [.bool false] :: E = HB at *
  unfold laC at g0
  refine awp_seq ?_
  refine awp_run rfl (by simp only [fwA, seval] <;> rfl) ?_
  refine awp_seq ?_
  refine awp_cond (by simp only [fwA, seval] <;> rfl) ?_
  by_cases hc : (i : Int) < us.length
  rotate_left
  · simp only [hc, decide_false, Bool.false_eq_true, ↓reduceIte]
    refine awp_exit ?_
    have e : i = us.length := by omega
    subst e
    rw [hall]
    refine awp_seq ?_
    refine awp_run rfl (by simp only [fwA, seval, gfw, bx, dx, bitfw, g1] <;> rfl) ?_
    refine awp_ret ?_
    rw [hset]
    exact hres _ _ true _ rfl gt1 hpret hMt
  simp only [hc, decide_true, ↓reduceIte]
  refine awp_skip ?_
  have hill : i < us.length := by omega
  obtain ⟨x, gx, hx, ex⟩ := getW hw hill
  have hxn := getD_lt hi i
  rw [ex] at hxn
  have hwi : IntKind.i64.wrap ((i : Int) + 1) = ((i + 1 : Nat) : Int) := wrapS i (by omega)
  have hone := uOne (a := i) (by omega)
  have ha1 := uAnd (x := x) (y := 2 ^ i) hx
  have ha2 := uAnd (x := x) (y := dn us i us.length) hx
  have h61 := c130 Γ ns us hw hn i
  have hz1 := dec_zero (x &&& 2 ^ i)
  have hz2 := cast_eq (x &&& dn us i us.length) (2 ^ i)
  have hok : okRow us us.length i = (!decide (x &&& 2 ^ i = 0) && decide (x &&& dn us i us.length = 2 ^ i) && (bitsOf x).all fun b => decide (andn (us.getD b 0) x = 0)) := by unfold okRow; rw [ex]
  have hbad : okRow us us.length i = false → (List.range us.length).all (okRow us us.length) = false := fun h => all_false hill h
  refine awp_seq ?_
  refine awp_block ?_
  refine awp_seq ?_
  refine awp_run rfl (by simp only [fwA, seval, gfw, bx, dx, bitfw, gx] <;> rfl) ?_
  refine awp_seq ?_
  refine awp_seq ?_
  have g0' : (HB ++ [Blk.box [.int .u64 (x : Int)]])[H.length]? = some (.box [.vec (ns.map S1) false, .vec (us.map U1) false]) := by rw [List.getElem?_append_left (by omega)]; exact g0
  have g1' : (HB ++ [Blk.box [.int .u64 (x : Int)]])[H.length + 1]? = some (.box [.bool false]) := by rw [List.getElem?_append_left (by omega)]; exact g1
  have g4 : (HB ++ [Blk.box [.int .u64 (x : Int)]])[HB.length]? = some (.box [.int .u64 (x : Int)]) := Fw.get_at0 _ _
  have hsame' : (HB ++ [Blk.box [.int .u64 (x : Int)]]).set (H.length + 1) (.box [.bool false]) = HB ++ [Blk.box [.int .u64 (x : Int)]] := set_self g1'
  have hMK : MarksAt H.length (HB ++ [Blk.box [.int .u64 (x : Int)]]) Ds := hM.app _
  have hpK : ∃ L, HB ++ [Blk.box [.int .u64 (x : Int)]] = H ++ L := by obtain ⟨L, hL⟩ := hpre; exact ⟨L ++ _, by rw [hL, List.append_assoc]⟩
  generalize hK : HB ++ [Blk.box [.int .u64 (x : Int)]] = K at g0' g1' g4 hsame' hMK hpK ⊢
  by_cases h1 : x &&& 2 ^ i = 0
  · refine awp_drawn [1, 0, 0, 0, 0, 0, 1, 1, 0, 0, 0, 0, 0, 0, 0] [0, 0, 2, 7, 15, 31, 63, 63, 63, 447, 1023, 63, 2111, 8191, 16383] mixed rfl (by kernel_rfl) ?_
    refine dops_run 13 (by simp only [fwA, seval, gfw, bx, dx, bitfw, g0', g4, hone, ha1, hz1, h1] <;> rfl) ?_
    refine dops_run 2 (by simp only [fwA, seval, gfw, bx, dx, bitfw, g0', g4, hone, ha1, hz1, h1] <;> rfl) ?_
    refine dops_end ?_
    refine awp_cond (b := true) (by simp [alook, aput, ev]) ?_
    refine awp_seq ?_
    refine awp_run rfl (by simp only [fwA, seval, gfw, bx, dx, bitfw, g1', hsame'] <;> rfl) ?_
    refine awp_ret ?_
    rw [hbad (by rw [hok, decide_eq_true h1]; rfl)]
    exact hres _ _ false _ rfl g1' hpK hMK
  by_cases h2 : x &&& dn us i us.length = 2 ^ i
  rotate_left
  · refine awp_drawn [1, 0, 0, 0, 0, 0, 1, 1, 0, 0, 0, 0, 0, 0, 0] [0, 0, 2, 7, 15, 31, 63, 63, 63, 447, 1023, 63, 2111, 8191, 16383] mixed rfl (by kernel_rfl) ?_
    refine dops_run 9 (by simp only [fwA, seval, gfw, bx, dx, bitfw, g0', g4, hone, ha1, ha2, hz1, h1, hz2, h2] <;> rfl) ?_
    refine dops_fn rfl (by simp only [fwA, seval] <;> rfl) rfl rfl en130 h61 ?_
    refine dops_run 5 (by simp only [fwA, seval, gfw, bx, dx, bitfw, g0', g4, hone, ha1, ha2, hz1, h1, hz2, h2] <;> rfl) ?_
    refine dops_end ?_
    refine awp_cond (b := true) (by simp [alook, aput, ev]) ?_
    refine awp_seq ?_
    refine awp_run rfl (by simp only [fwA, seval, gfw, bx, dx, bitfw, g1', hsame'] <;> rfl) ?_
    refine awp_ret ?_
    rw [hbad (by rw [hok, decide_eq_false h2, Bool.and_false]; rfl)]
    exact hres _ _ false _ rfl g1' hpK hMK
  refine awp_drawn [1, 0, 0, 0, 0, 0, 1, 1, 0, 0, 0, 0, 0, 0, 0] [0, 0, 2, 7, 15, 31, 63, 63, 63, 447, 1023, 63, 2111, 8191, 16383] mixed rfl (by kernel_rfl) ?_
  refine dops_run 9 (by simp only [fwA, seval, gfw, bx, dx, bitfw, g0', g4, hone, ha1, ha2, hz1, h1, hz2, h2] <;> rfl) ?_
  refine dops_fn rfl (by simp only [fwA, seval] <;> rfl) rfl rfl en130 h61 ?_
  refine dops_run 5 (by simp only [fwA, seval, gfw, bx, dx, bitfw, g0', g4, hone, ha1, ha2, hz1, h1, hz2, h2] <;> rfl) ?_
  refine dops_end ?_
  refine awp_cond (b := false) (by simp [alook, aput, ev]) (awp_skip ?_)
  refine awp_seq ?_
  refine awp_region rfl ?_
  refine aops_run 1 (by simp only [fwA, seval, gfw, bx, dx, bitfw, g4] <;> rfl) ?_
  refine aops_call rfl rfl rfl en131 ((c131 Γ x _).mono fun p H' hp => ?_)
  obtain ⟨rfl, rfl⟩ := hp
  refine aops_end ?_
  refine awp_block ?_
  have hKl : K.length = HB.length + 1 := by rw [← hK]; simp
  refine awp_rangeFuncM (gf := 148) (caps := [.ptr K.length 0]) (b := K.length) (by simp only [fwA, seval] <;> rfl) en148 (c148 Γ hΓ K.length x hx) (Fw.get_at0 _ _) (by simp [Tryz.f104])
    (fun k Hf => (∀ j c, j < k → (bitsOf x)[j]? = some c → decide (andn (us.getD c 0) x = 0) = true) ∧ ∃ cs, PV.plainL cs = true ∧ Hf = K ++ [Blk.box cs])
    (fun c Hf => c = .ret ∧ okRow us us.length i = false ∧ ∃ cs, Hf = K ++ [Blk.box cs])
    ⟨fun j c hj => by omega, _, rfl, rfl⟩ ?_ ?_ ?_ ?_
  · rintro k Hf ⟨hno, cs, hcs, rfl⟩
    refine ⟨by simp, fun cs' hcs' => ⟨hno, cs', hcs', ?_⟩⟩
    rw [set_at0]; rfl
  · rintro k q Hf L L' ro hq ⟨hno, cs, hcs, rfl⟩ hL hL' hbd hbd'
    obtain ⟨c, hc2, rfl⟩ := bitsP_at hq
    have hct : x.testBit c = true := (mem_bitsOf hx).1 (List.mem_of_getElem? hc2)
    have hcn : c < us.length := bit_lt hxn hct
    obtain ⟨z, gz, hz, ez⟩ := getW hw hcn
    have hnj := uAndn z x
    have hdz := dec_zero (andn z x)
    refine awp_less (A' := [(1, .ptr H.length 0), (2, .ptr (H.length + 1) 0), (4, .ptr HB.length 0), (31, .int .i64 (c : Int))]) (fun t => zip_look [1, 2, 4, 31] [.ptr H.length 0, .ptr (H.length + 1) 0, .ptr HB.length 0, .int .i64 (c : Int)] t _ (by simp only [fwA, seval] <;> rfl)) ?_
    refine awp_run rfl (by simp only [fwA, seval] <;> rfl) ?_
    refine ⟨rfl, K ++ [Blk.box cs], [], by simp, by simp, ?_⟩
    rw [List.append_nil]
    have k0 : (K ++ [Blk.box cs] ++ L')[H.length]? = some (.box [.vec (ns.map S1) false, .vec (us.map U1) false]) := by rw [List.append_assoc, List.getElem?_append_left (by omega)]; exact g0'
    have k1 : (K ++ [Blk.box cs] ++ L')[H.length + 1]? = some (.box [.bool false]) := by rw [List.append_assoc, List.getElem?_append_left (by omega)]; exact g1'
    have k4 : (K ++ [Blk.box cs] ++ L')[HB.length]? = some (.box [.int .u64 (x : Int)]) := by rw [List.append_assoc, List.getElem?_append_left (by omega)]; exact g4
    have ksame : (K ++ [Blk.box cs] ++ L').set (H.length + 1) (.box [.bool false]) = K ++ [Blk.box cs] ++ L' := set_self k1
    have hbdK : ∀ B ∈ K ++ [Blk.box cs], B.bd ((K ++ [Blk.box cs]).length + L'.length) = true := fun B hB => by
      have := hbd B (List.mem_append_left _ hB)
      rw [List.length_append, ← hL'] at this
      exact this
    have hkl : (K ++ [Blk.box cs]).length = K.length + 1 := by simp
    have hkl2 : (K ++ [Blk.box [.int .u64 (x : Int)]]).length = K.length + 1 := by simp
    generalize hK3 : K ++ [Blk.box cs] ++ L' = K3 at k0 k1 k4 ksame ⊢
    refine awp_block ?_
    refine awp_seq ?_
    refine awp_drun [0, 1, 0, 0, 1, 1, 0, 0] [0, 1, 0, 7, 15, 0, 63, 127] mixed rfl (by kernel_rfl) (by simp only [fwA, seval, gfw, bx, dx, bitfw, k0, k4, gz, hnj, hdz] <;> rfl) ?_
    refine awp_cond (by simp only [fwA, seval] <;> rfl) ?_
    by_cases hz0 : andn z x = 0
    · simp only [hz0, decide_true, Bool.not_true, Bool.false_eq_true, ↓reduceIte]
      refine awp_skip ?_
      refine ⟨K ++ [Blk.box cs], [], by simp, by rw [← hK3]; simp, fun B hB => by rw [hkl2, ← hkl]; exact hbdK B hB, rfl, fun j d hj hd => ?_, cs, hcs, rfl⟩
      by_cases hji : j = k
      · subst hji; rw [hc2] at hd; cases hd; rw [ez]; exact decide_eq_true hz0
      · exact hno j d (by omega) hd
    · simp only [hz0, decide_false, Bool.not_false, ↓reduceIte]
      refine awp_seq ?_
      refine awp_run rfl (by simp only [fwA, seval, gfw, bx, dx, bitfw, k1, ksame] <;> rfl) ?_
      refine awp_ret ?_
      refine ⟨K ++ [Blk.box cs], [], by simp, by rw [← hK3]; simp, fun B hB => by rw [hkl2, ← hkl]; exact hbdK B hB, rfl, by first | exact rfl | exact trivial, ?_, cs, rfl⟩
      rw [hok]
      have : ((bitsOf x).all fun b => decide (andn (us.getD b 0) x = 0)) = false := by
        rw [List.all_eq_false]
        exact ⟨c, List.mem_of_getElem? hc2, by rw [ez]; simpa using hz0⟩
      rw [this, Bool.and_false]
  · rintro Hf B ⟨hno, cs, hcs, rfl⟩
    have hrow : okRow us us.length i = true := by
      rw [hok, decide_eq_false h1, decide_eq_true h2]
      have : ((bitsOf x).all fun b => decide (andn (us.getD b 0) x = 0)) = true := by
        rw [List.all_eq_true]
        intro c hc3
        obtain ⟨j, hj⟩ := List.getElem?_of_mem hc3
        exact hno j c (by rw [bitsP_len]; exact (List.getElem?_eq_some_iff.1 hj).1) hj
      rw [this]; rfl
    simp only [Post.block, Post.then]
    refine awp_run rfl (by simp only [fwA, seval] <;> rfl) ?_
    refine ⟨(i + 1, E ++ [.box [.int .u64 (x : Int)], .box cs, .dfr, B], (K ++ [Blk.box [.int .u64 (x : Int)]]).length :: Ds), by simp only; omega, ⟨by simp only; omega, ?_, ?_⟩, ?_, ?_, rfl⟩
    · simp only [all_succ, hall, hrow, Bool.and_self]
    · have hm := (hMK.app [Blk.box cs]).push (by simp; omega) [B]
      simp only
      rw [← hEl, show HB ++ [Blk.box [.int .u64 (x : Int)], .box cs, .dfr, B] = K ++ [Blk.box cs] ++ [.dfr, B] by rw [← hK]; simp]
      rw [show (K ++ [Blk.box [.int .u64 (x : Int)]]).length = (K ++ [Blk.box cs]).length by simp]
      exact hm
    · simp only [fwA, seval, gfw, hwi]
    · simp only
      rw [← hEl, ← hK]; simp
  · rintro c Hf B ⟨rfl, hbadr, cs, rfl⟩ _
    refine awp_ret ?_
    rw [hbad hbadr]
    have hm := (hMK.app [Blk.box cs]).push (by simp; omega) [B]
    rw [show (K ++ [Blk.box cs]).length = (K ++ [Blk.box [.int .u64 (x : Int)]]).length by simp] at hm
    refine hres _ _ false _ rfl ?_ ?_ hm
    · rw [List.append_assoc, List.getElem?_append_left (by omega)]; exact g1'
    · obtain ⟨L, hL⟩ := hpK
      exact ⟨L ++ [Blk.box cs] ++ [.dfr, B], by rw [hL]; simp⟩
end Go.Proofs.YteicbhkimepbaaaGreatDoor
namespace Go.Proofs.YteicbhkimepbaaaGreatDoor
set_option linter.unusedVariables false
set_option linter.unusedSimpArgs false
set_option maxRecDepth 100000
open Go.RowKit Fw
theorem oI_neg (o : Option Nat) : decide (oI o = -1) = !o.isSome := by
  cases o with
  | none => rfl
  | some c => simp [oI]
set_option maxHeartbeats 1000000 in
theorem c105 (Γ : Nat → PV) (hΓ : Tab64 Γ) (ns : List (List UInt8)) (us : List Nat) (hn : us.length ≤ 64) (hi : Inn us.length us) : Gives Tryz.prog Γ 105 [.agg [.vec (ns.map S1) false, .vec (us.map U1) false]] (.bool (boundP us.length (lq us))) := by
  have hw : W64 us := fun x hx => le64 hn (hi x hx)
  refine fn_of_awp Tryz.func105 rfl (by simp [Tryz.f105]) rfl fun H => ?_
  refine awp_seq ?_
  refine awp_run rfl (by simp only [fwA, seval] <;> rfl) ?_
  refine awp_seq ?_
  refine awp_seq ?_
  refine awp_run rfl (by simp only [fwA, seval, gfw, bx, dx, bitfw] <;> rfl) ?_
  refine awp_block ?_
  refine awp_for [1, 6, 7, 8] (fun i : Nat => [.ptr H.length 0, .vec (us.map U1) false, .int .i64 (us.length : Int), .int .i64 (i : Int)]) (fun _ => H ++ [.box (laC ns us)]) (fun i => us.length - i) (fun i => i ≤ us.length ∧ ((List.range i).all fun a => (List.range a).all fun b => (jn us.length (lq us) a b).isSome && (jn us.length (tr (lq us)) a b).isSome) = true) 0 rfl rfl ⟨Nat.zero_le _, rfl⟩ fun i hs => ?_
  obtain ⟨hil, hall⟩ := hs
  refine awp_seq ?_
  refine awp_run rfl (by simp only [fwA, seval, gfw, bx, dx, bitfw] <;> rfl) ?_
  refine awp_seq ?_
  refine awp_cond (by simp only [fwA, seval] <;> rfl) ?_
  by_cases hc : (i : Int) < us.length
  rotate_left
  · simp only [hc, decide_false, Bool.false_eq_true, ↓reduceIte]
    refine awp_exit ?_
    have e : i = us.length := by omega
    subst e
    have hb : boundP us.length (lq us) = true := hall
    rw [hb]
    refine awp_seq ?_
    refine awp_run rfl (by simp only [fwA, seval] <;> rfl) ?_
    refine awp_ret ?_
    exact gives_end (.inl rfl) _ rfl
  simp only [hc, decide_true, ↓reduceIte]
  refine awp_skip ?_
  have hill : i < us.length := by omega
  have hwi : IntKind.i64.wrap ((i : Int) + 1) = ((i + 1 : Nat) : Int) := wrapS i (by omega)
  have hbad : ((List.range i).all fun b => (jn us.length (lq us) i b).isSome && (jn us.length (tr (lq us)) i b).isSome) = false → boundP us.length (lq us) = false := fun h => all_false hill h
  refine awp_seq ?_
  refine awp_block ?_
  refine awp_seq ?_
  refine awp_run rfl (by simp only [fwA, seval] <;> rfl) ?_
  refine awp_seq ?_
  refine awp_run rfl (by simp only [fwA, seval] <;> rfl) ?_
  refine awp_block ?_
  refine awp_for [1, 3, 6, 7, 8, 11, 12] (fun j : Nat => [.ptr H.length 0, .int .i64 (i : Int), .vec (us.map U1) false, .int .i64 (us.length : Int), .int .i64 (i : Int), .int .i64 (i : Int), .int .i64 (j : Int)]) (fun _ => H ++ [.box (laC ns us)]) (fun j => i - j) (fun j => j ≤ i ∧ ((List.range j).all fun b => (jn us.length (lq us) i b).isSome && (jn us.length (tr (lq us)) i b).isSome) = true) 0 rfl rfl ⟨Nat.zero_le _, rfl⟩ fun j hs => ?_
  obtain ⟨hjl, hallj⟩ := hs
  have g0 : (H ++ [Blk.box (laC ns us)])[H.length]? = some (.box [.vec (ns.map S1) false, .vec (us.map U1) false]) := by rw [Fw.get_at0]; rfl
  refine awp_seq ?_
  refine awp_run rfl (by simp only [fwA, seval, gfw, bx, dx, bitfw] <;> rfl) ?_
  refine awp_seq ?_
  refine awp_cond (by simp only [fwA, seval] <;> rfl) ?_
  by_cases hcj : (j : Int) < i
  rotate_left
  · simp only [hcj, decide_false, Bool.false_eq_true, ↓reduceIte]
    refine awp_exit ?_
    have e : j = i := by omega
    subst e
    refine awp_run rfl (by simp only [fwA, seval] <;> rfl) ?_
    refine ⟨j + 1, by omega, ⟨by omega, by rw [all_succ, hall, hallj]; rfl⟩, ?_, rfl, rfl⟩
    simp only [fwA, seval, gfw, hwi]
  simp only [hcj, decide_true, ↓reduceIte]
  refine awp_skip ?_
  have hji : j < i := by omega
  have hwj : IntKind.i64.wrap ((j : Int) + 1) = ((j + 1 : Nat) : Int) := wrapS j (by omega)
  have h51 := c115 Γ hΓ ns us hn hi i j hill (by omega)
  have h53 := c119 Γ hΓ ns us hn hw i j hill (by omega)
  have hbj : ((jn us.length (lq us) i j).isSome && (jn us.length (tr (lq us)) i j).isSome) = false → boundP us.length (lq us) = false := fun h => hbad (all_false hji h)
  have hn1 := oI_neg (jn us.length (lq us) i j)
  have hn2 := oI_neg (jn us.length (tr (lq us)) i j)
  refine awp_seq ?_
  refine awp_block ?_
  refine awp_seq ?_
  refine awp_run rfl (by simp only [fwA, seval] <;> rfl) ?_
  refine awp_seq ?_
  generalize hK : H ++ [Blk.box (laC ns us)] = K at g0 ⊢
  cases hj1 : (jn us.length (lq us) i j).isSome
  · rw [hj1] at hn1
    refine awp_region rfl ?_
    refine aops_run 3 (by simp only [fwA, seval, gfw, bx, dx, bitfw, g0, hn1] <;> rfl) ?_
    refine aops_fn rfl rfl rfl en115 h51 ?_
    refine aops_run 8 (by simp only [fwA, seval, gfw, bx, dx, bitfw, g0, hn1] <;> rfl) ?_
    refine aops_end ?_
    refine awp_cond (b := true) (by simp [alook, aput, ev]) ?_
    refine awp_seq ?_
    refine awp_run rfl (by simp only [fwA, seval] <;> rfl) ?_
    refine awp_ret ?_
    rw [hbj (by rw [hj1]; rfl)]
    subst hK
    exact gives_end (.inl rfl) _ rfl
  rw [hj1] at hn1
  cases hj2 : (jn us.length (tr (lq us)) i j).isSome
  · rw [hj2] at hn2
    refine awp_region rfl ?_
    refine aops_run 3 (by simp only [fwA, seval, gfw, bx, dx, bitfw, g0, hn1, hn2] <;> rfl) ?_
    refine aops_fn rfl rfl rfl en115 h51 ?_
    refine aops_run 5 (by simp only [fwA, seval, gfw, bx, dx, bitfw, g0, hn1, hn2] <;> rfl) ?_
    refine aops_fnIf rfl rfl rfl rfl rfl en119 h53 ?_
    refine aops_run 2 (by simp only [fwA, seval, gfw, bx, dx, bitfw, g0, hn1, hn2] <;> rfl) ?_
    refine aops_end ?_
    refine awp_cond (b := true) (by simp [alook, aput, ev]) ?_
    refine awp_seq ?_
    refine awp_run rfl (by simp only [fwA, seval] <;> rfl) ?_
    refine awp_ret ?_
    rw [hbj (by rw [hj2, Bool.and_false])]
    subst hK
    exact gives_end (.inl rfl) _ rfl
  rw [hj2] at hn2
  refine awp_region rfl ?_
  refine aops_run 3 (by simp only [fwA, seval, gfw, bx, dx, bitfw, g0, hn1, hn2] <;> rfl) ?_
  refine aops_fn rfl rfl rfl en115 h51 ?_
  refine aops_run 5 (by simp only [fwA, seval, gfw, bx, dx, bitfw, g0, hn1, hn2] <;> rfl) ?_
  refine aops_fnIf rfl rfl rfl rfl rfl en119 h53 ?_
  refine aops_run 2 (by simp only [fwA, seval, gfw, bx, dx, bitfw, g0, hn1, hn2] <;> rfl) ?_
  refine aops_end ?_
  refine awp_cond (b := false) (by simp [alook, aput, ev]) (awp_skip ?_)
  refine awp_run rfl (by simp only [fwA, seval] <;> rfl) ?_
  refine ⟨j + 1, by omega, ⟨by omega, by rw [all_succ, hallj, hj1, hj2]; rfl⟩, ?_, rfl, rfl⟩
  simp only [fwA, seval, gfw, hwj]
def namedB (l : List (List UInt8)) : Bool := decide (0 < l.length) && (List.range l.length).all fun k => nameB (l.getD k []) && decide (idxS l (l.getD k []) = (k : Int))
theorem c101 (Γ : Nat → PV) (l : List (List UInt8)) : Gives Tryz.prog Γ 101 [.vec (l.map S1) false] (.bool (namedB l)) := by
  refine fn_of_awp Tryz.func101 rfl (by simp [Tryz.f101]) rfl fun H => ?_
  refine awp_vlen 0 rfl fun hsl => ?_
  rw [List.length_map] at hsl
  refine awp_seq ?_
  refine awp_run rfl (by simp only [fwA, seval] <;> rfl) ?_
  refine awp_seq ?_
  refine awp_seq ?_
  refine awp_run rfl (by simp only [fwA, seval, gfw, bx, dx, bitfw] <;> rfl) ?_
  refine awp_block ?_
  refine awp_for [0, 5, 6, 7] (fun i : Nat => [.vec (l.map S1) false, .vec (l.map S1) false, .int .i64 (l.length : Int), .int .i64 (i : Int)]) (fun _ => H) (fun i => l.length - i) (fun i => i ≤ l.length ∧ ((List.range i).all fun k => nameB (l.getD k []) && decide (idxS l (l.getD k []) = (k : Int))) = true) 0 rfl rfl ⟨Nat.zero_le _, rfl⟩ fun i hs => ?_
  obtain ⟨hil, hall⟩ := hs
  refine awp_seq ?_
  refine awp_run rfl (by simp only [fwA, seval, gfw, bx, dx, bitfw] <;> rfl) ?_
  refine awp_seq ?_
  refine awp_cond (by simp only [fwA, seval] <;> rfl) ?_
  by_cases hc : (i : Int) < l.length
  rotate_left
  · simp only [hc, decide_false, Bool.false_eq_true, ↓reduceIte]
    refine awp_exit ?_
    have e : i = l.length := by omega
    subst e
    refine awp_seq ?_
    refine awp_run rfl (by simp only [fwA, seval, gfw, bx, dx, bitfw] <;> rfl) ?_
    refine awp_ret ?_
    have e2 : decide ((0 : Int) < (l.length : Int)) = decide (0 < l.length) := decide_eq_decide.2 (by omega)
    exact gives_end0 (.inl rfl) (by unfold namedB; rw [hall, ← e2, Bool.and_true]; rfl)
  simp only [hc, decide_true, ↓reduceIte]
  refine awp_skip ?_
  have hill : i < l.length := by omega
  have ga : l[i]? = some l[i] := List.getElem?_eq_getElem hill
  have gd : l.getD i [] = l[i] := by rw [List.getD_eq_getElem?_getD, ga]; rfl
  have hwi : IntKind.i64.wrap ((i : Int) + 1) = ((i + 1 : Nat) : Int) := wrapS i (by omega)
  have hbad : (nameB (l.getD i []) && decide (idxS l (l.getD i []) = (i : Int))) = false → namedB l = false := fun h => by
    unfold namedB
    rw [all_false hill h, Bool.and_false]
  rw [gd] at hbad
  have hst : ((List.range (i + 1)).all fun k => nameB (l.getD k []) && decide (idxS l (l.getD k []) = (k : Int))) = (nameB l[i] && decide (idxS l l[i] = (i : Int))) := by rw [all_succ, hall, gd]; rfl
  generalize l[i] = s at ga hbad hst
  have h19 := c128 Γ s
  have h50 := c129 Γ l s
  refine awp_seq ?_
  refine awp_block ?_
  refine awp_seq ?_
  refine awp_run rfl (by simp only [fwA, seval, gfw, bx, dx, bitfw, ga] <;> rfl) ?_
  refine awp_seq ?_
  cases hs1 : nameB s
  · rw [hs1] at h19
    refine awp_region rfl ?_
    refine aops_run 1 (by simp only [fwA, seval, gfw, bx, dx, bitfw] <;> rfl) ?_
    refine aops_fn rfl rfl rfl en128 h19 ?_
    refine aops_run 8 (by simp only [fwA, seval, gfw, bx, dx, bitfw] <;> rfl) ?_
    refine aops_end ?_
    refine awp_cond (b := true) (by simp [alook, aput, ev]) ?_
    refine awp_seq ?_
    refine awp_run rfl (by simp only [fwA, seval] <;> rfl) ?_
    refine awp_ret ?_
    rw [hbad (by rw [hs1]; rfl)]
    exact gives_end0 (.inl rfl) rfl
  rw [hs1] at h19
  by_cases hk : idxS l s = (i : Int)
  · refine awp_region rfl ?_
    refine aops_run 1 (by simp only [fwA, seval, gfw, bx, dx, bitfw, hk] <;> rfl) ?_
    refine aops_fn rfl rfl rfl en128 h19 ?_
    refine aops_run 4 (by simp only [fwA, seval, gfw, bx, dx, bitfw, hk] <;> rfl) ?_
    refine aops_fnIf rfl rfl rfl rfl rfl en129 h50 ?_
    refine aops_run 3 (by simp only [fwA, seval, gfw, bx, dx, bitfw, hk] <;> rfl) ?_
    refine aops_end ?_
    refine awp_cond (b := false) (by simp [alook, aput, ev]) (awp_skip ?_)
    refine awp_run rfl (by simp only [fwA, seval] <;> rfl) ?_
    refine ⟨i + 1, by omega, ⟨by omega, by rw [hst, hs1, decide_eq_true hk]; rfl⟩, ?_, rfl, rfl⟩
    simp only [fwA, seval, gfw, hwi]
  · refine awp_region rfl ?_
    refine aops_run 1 (by simp only [fwA, seval, gfw, bx, dx, bitfw, hk] <;> rfl) ?_
    refine aops_fn rfl rfl rfl en128 h19 ?_
    refine aops_run 4 (by simp only [fwA, seval, gfw, bx, dx, bitfw, hk] <;> rfl) ?_
    refine aops_fnIf rfl rfl rfl rfl rfl en129 h50 ?_
    refine aops_run 3 (by simp only [fwA, seval, gfw, bx, dx, bitfw, hk] <;> rfl) ?_
    refine aops_end ?_
    refine awp_cond (b := true) (by simp [alook, aput, ev]) ?_
    refine awp_seq ?_
    refine awp_run rfl (by simp only [fwA, seval] <;> rfl) ?_
    refine awp_ret ?_
    rw [hbad (by rw [decide_eq_false hk, Bool.and_false])]
    exact gives_end0 (.inl rfl) rfl
def idxF (q : Nat → Bool) (us : List Nat) : Int := match us.findIdx? q with | some k => (k : Int) | none => -1
theorem idxF_none {q : Nat → Bool} {us : List Nat} (h : ∀ j x, j < us.length → us[j]? = some x → q x = false) : idxF q us = -1 := by
  unfold idxF
  have : us.findIdx? q = none := by
    rw [List.findIdx?_eq_none_iff]
    intro x hx
    obtain ⟨j, hj⟩ := List.getElem?_of_mem hx
    exact h j x (List.getElem?_eq_some_iff.1 hj).1 hj
  rw [this]
theorem idxF_some {q : Nat → Bool} {us : List Nat} {i x : Nat} (h : ∀ j y, j < i → us[j]? = some y → q y = false) (hi : us[i]? = some x) (hq : q x = true) : idxF q us = i := by
  unfold idxF
  have : us.findIdx? q = some i := by
    obtain ⟨h1, rfl⟩ := List.getElem?_eq_some_iff.1 hi
    rw [List.findIdx?_eq_some_iff_getElem]
    refine ⟨h1, hq, fun j hj => ?_⟩
    rw [h j _ hj (List.getElem?_eq_getElem (by omega))]; simp
  rw [this]
theorem idxF_lt {q : Nat → Bool} {us : List Nat} : decide (0 ≤ idxF q us) = us.any q := by
  unfold idxF
  cases h : us.findIdx? q with
  | none =>
    rw [List.findIdx?_eq_none_iff] at h
    have : us.any q = false := List.any_eq_false.2 fun x hx => by rw [h x hx]; simp
    rw [this]; rfl
  | some k =>
    obtain ⟨h1, h2, _⟩ := List.findIdx?_eq_some_iff_getElem.1 h
    have : us.any q = true := List.any_eq_true.2 ⟨_, List.getElem_mem h1, h2⟩
    rw [this]; simp
theorem c116 (Γ : Nat → PV) (f : Nat) (he : Enters Tryz.prog f) (caps : List PV) (q : Nat → Bool) (us : List Nat) (H : List Blk) (hf : ∀ x ∈ us, ACalls Tryz.prog Γ f (.int .u64 (x : Int) :: caps) H (fun p H' => p = .bool (q x) ∧ H' = H)) :
    ACalls Tryz.prog Γ 116 [.vec (us.map U1) false, .func (.func f) [] caps] H (fun p H' => p = .int .i64 (idxF q us) ∧ H' = H) := by
  refine acalls_of_awp Tryz.func116 rfl (by simp [Tryz.f116]) fun hbd => ?_
  refine awp_vlen 0 rfl fun hsl => ?_
  rw [List.length_map] at hsl
  refine awp_seq ?_
  refine awp_run rfl (by simp only [fwA, seval] <;> rfl) ?_
  refine awp_seq ?_
  refine awp_seq ?_
  refine awp_run rfl (by simp only [fwA, seval, gfw, bx, dx, bitfw] <;> rfl) ?_
  refine awp_block ?_
  refine awp_for [0, 1, 7, 8] (fun i : Nat => [.vec (us.map U1) false, .func (.func f) [] caps, .int .i64 (us.length : Int), .int .i64 (i : Int)]) (fun _ => H) (fun i => us.length - i) (fun i => i ≤ us.length ∧ ∀ j y, j < i → us[j]? = some y → q y = false) 0 rfl rfl ⟨Nat.zero_le _, fun j y hj => by omega⟩ fun i hs => ?_
  obtain ⟨hil, hno⟩ := hs
  refine awp_seq ?_
  refine awp_run rfl (by simp only [fwA, seval, gfw, bx, dx, bitfw] <;> rfl) ?_
  refine awp_seq ?_
  refine awp_cond (by simp only [fwA, seval] <;> rfl) ?_
  by_cases hc : (i : Int) < us.length
  rotate_left
  · simp only [hc, decide_false, Bool.false_eq_true, ↓reduceIte]
    refine awp_exit ?_
    have e : i = us.length := by omega
    subst e
    refine awp_seq ?_
    refine awp_run rfl (by simp only [fwA, seval] <;> rfl) ?_
    refine awp_ret ?_
    exact calls_end0 (p := .int .i64 (idxF q us)) (.inl rfl) hbd (by rw [idxF_none hno]; rfl) rfl ⟨rfl, rfl⟩
  simp only [hc, decide_true, ↓reduceIte]
  refine awp_skip ?_
  have hill : i < us.length := by omega
  have ga : us[i]? = some us[i] := List.getElem?_eq_getElem hill
  have hfx := hf us[i] (List.getElem_mem hill)
  generalize us[i] = x at ga hfx
  have hwi : IntKind.i64.wrap ((i : Int) + 1) = ((i + 1 : Nat) : Int) := wrapS i (by omega)
  refine awp_seq ?_
  refine awp_block ?_
  refine awp_seq ?_
  refine awp_run rfl (by simp only [fwA, seval] <;> rfl) ?_
  refine awp_seq ?_
  refine awp_region rfl ?_
  refine aops_run 5 (by simp only [fwA, seval, gfw, bx, dx, bitfw, ga] <;> rfl) ?_
  refine aops_call rfl rfl rfl he (hfx.mono fun p H' hp => ?_)
  obtain ⟨rfl, e⟩ := hp
  rw [e]
  refine aops_end ?_
  refine awp_cond (by simp only [fwA, seval] <;> rfl) ?_
  cases hq : q x
  · simp only [Bool.false_eq_true, ↓reduceIte]
    refine awp_skip ?_
    refine awp_run rfl (by simp only [fwA, seval] <;> rfl) ?_
    refine ⟨i + 1, by omega, ⟨by omega, fun j y hj hy => ?_⟩, ?_, rfl, rfl⟩
    · by_cases hji : j = i
      · subst hji; rw [ga] at hy; cases hy; exact hq
      · exact hno j y (by omega) hy
    · simp only [fwA, seval, gfw, hwi]
  · simp only [↓reduceIte]
    refine awp_seq ?_
    refine awp_run rfl (by simp only [fwA, seval] <;> rfl) ?_
    refine awp_ret ?_
    simp only [Post.block, Post.then]
    exact calls_end0 (p := .int .i64 (idxF q us)) (.inl rfl) hbd (by rw [idxF_some hno ga hq]; rfl) rfl ⟨rfl, rfl⟩
theorem c103 (Γ : Nat → PV) (f : Nat) (he : Enters Tryz.prog f) (caps : List PV) (q : Nat → Bool) (us : List Nat) (H : List Blk) (hf : ∀ x ∈ us, ACalls Tryz.prog Γ f (.int .u64 (x : Int) :: caps) H (fun p H' => p = .bool (q x) ∧ H' = H)) :
    ACalls Tryz.prog Γ 103 [.vec (us.map U1) false, .func (.func f) [] caps] H (fun p H' => p = .bool (us.any q) ∧ H' = H) := by
  refine acalls_of_awp Tryz.func103 rfl (by simp [Tryz.f103]) fun hbd => ?_
  refine awp_seq ?_
  refine awp_run rfl (by simp only [fwA, seval] <;> rfl) ?_
  refine awp_seq ?_
  refine awp_region rfl ?_
  refine aops_run 2 (by simp only [fwA, seval, gfw, bx, dx, bitfw] <;> rfl) ?_
  refine aops_call rfl rfl rfl en116 ((c116 Γ f he caps q us H hf).mono fun p H' hp => ?_)
  obtain ⟨rfl, rfl⟩ := hp
  refine aops_run 2 (by simp only [fwA, seval, gfw, bx, dx, bitfw] <;> rfl) ?_
  refine aops_end ?_
  refine awp_ret ?_
  exact calls_end0 (p := .bool (us.any q)) (.inl rfl) hbd (by rw [← idxF_lt]; rfl) rfl ⟨rfl, rfl⟩
theorem c102 (Γ : Nat → PV) (ns : List (List UInt8)) (us : List Nat) (hn : us.length ≤ 64) (x : Nat) (hx : x < 2 ^ 64) (H : List Blk) (b : Nat) (hb : H[b]? = some (.box [.vec (ns.map S1) false, .vec (us.map U1) false])) :
    ACalls Tryz.prog Γ 102 [.int .u64 (x : Int), .ptr b 0] H (fun p H' => p = .bool (!decide (x < 2 ^ us.length)) ∧ H' = H) := by
  have h45 := c96 Γ ns us hn
  have hz := all_zero hn hx
  refine acalls_of_awp Tryz.func102 rfl (by simp [Tryz.f102]) fun hbd => ?_
  refine awp_seq ?_
  refine awp_run rfl (by simp only [fwA, seval] <;> rfl) ?_
  refine awp_seq ?_
  refine awp_region rfl ?_
  refine aops_run 2 (by simp only [fwA, seval, gfw, bx, dx, bitfw, hb, uAndn, hz] <;> rfl) ?_
  refine aops_fn rfl rfl rfl en96 h45 ?_
  refine aops_run 3 (by simp only [fwA, seval, gfw, bx, dx, bitfw, hb, uAndn, hz] <;> rfl) ?_
  refine aops_end ?_
  refine awp_ret ?_
  exact calls_end0 (p := .bool (!decide (x < 2 ^ us.length))) (.inl rfl) hbd rfl rfl ⟨rfl, rfl⟩
end Go.Proofs.YteicbhkimepbaaaGreatDoor
namespace Go.Proofs.YteicbhkimepbaaaGreatDoor
set_option linter.unusedVariables false
set_option linter.unusedSimpArgs false
set_option maxRecDepth 100000
open Go
def rightB (ns : List (List UInt8)) (us : List Nat) : Bool := decide (ns.length ≤ 64) && decide (us.length = ns.length) && namedB ns && (us.all (fun x => decide (x < 2 ^ us.length)) && (ordB us.length (lq us) && boundB us.length (lq us)))
theorem right_spec {ns : List (List UInt8)} {us : List Nat} (h : rightB ns us = true) : ns.length ≤ 64 ∧ us.length = ns.length ∧ namedB ns = true ∧ Inn us.length us ∧ Latt us.length (lq us) := by
  unfold rightB at h
  simp only [Bool.and_eq_true, decide_eq_true_eq, List.all_eq_true] at h
  obtain ⟨⟨⟨h1, h2⟩, h3⟩, h4, h5⟩ := h
  refine ⟨h1, h2, h3, h4, (latt_iff ?_).1 h5⟩
  unfold namedB at h3
  simp only [Bool.and_eq_true, decide_eq_true_eq] at h3
  omega
theorem bot_idx {us : List Nat} (hi : Inn us.length us) (h : Latt us.length (lq us)) : idxF (fun x => decide (2 ^ us.length - 1 = x)) us = oI (foldM us.length (lq us) us.length) := by
  obtain ⟨b, h1, hb⟩ := h.bot
  rw [h1]
  have key : ∀ j x, us[j]? = some x → (2 ^ us.length - 1 = x ↔ IsBot us.length (lq us) j) := fun j x hx => by
    have hd : us.getD j 0 = x := by rw [List.getD_eq_getElem?_getD, hx]; rfl
    have hxn := getD_lt hi j
    rw [hd] at hxn
    constructor
    · intro e
      refine ⟨(List.getElem?_eq_some_iff.1 hx).1, fun z hz => ?_⟩
      unfold lq
      rw [hd, ← e, Nat.testBit_two_pow_sub_one]
      exact decide_eq_true hz
    · intro hbot
      refine Nat.eq_of_testBit_eq fun z => ?_
      rw [Nat.testBit_two_pow_sub_one]
      by_cases hz : z < us.length
      · have := hbot.2 z hz
        unfold lq at this
        rw [hd] at this
        rw [this, decide_eq_true hz]
      · rw [decide_eq_false hz, Nat.testBit_lt_two_pow (Nat.lt_of_lt_of_le hxn (Nat.pow_le_pow_right (by decide) (by omega)))]
  have hbl : b < us.length := hb.1
  have gb : us[b]? = some us[b] := List.getElem?_eq_getElem hbl
  refine idxF_some (fun j y hj hy => decide_eq_false fun e => ?_) gb (decide_eq_true ((key b _ gb).2 hb))
  have := isBot_uniq h.toOrd ((key j y hy).1 e) hb
  omega
theorem top_idx {us : List Nat} (hn : us.length ≤ 64) (hi : Inn us.length us) (h : Latt us.length (lq us)) : idxF (fun x => decide ((bitsOf x).length = 1)) us = oI (foldM us.length (tr (lq us)) us.length) := by
  obtain ⟨t, h1, ht⟩ := h.tr.bot
  rw [h1]
  have hget : ∀ j x, us[j]? = some x → us.getD j 0 = x ∧ x < 2 ^ 64 := fun j x hx => by
    have hd : us.getD j 0 = x := by rw [List.getD_eq_getElem?_getD, hx]; rfl
    have hxn := getD_lt hi j
    rw [hd] at hxn
    exact ⟨hd, le64 hn hxn⟩
  have htl : t < us.length := ht.1
  have gt : us[t]? = some us[t] := List.getElem?_eq_getElem htl
  refine idxF_some (fun j y hj hy => decide_eq_false fun e => ?_) gt (decide_eq_true ?_)
  · obtain ⟨hd, hy64⟩ := hget j y hy
    have hjn := (List.getElem?_eq_some_iff.1 hy).1
    have a1 : j ∈ bitsOf y := (mem_bitsOf hy64).2 (by have := h.refl j hjn; unfold lq at this; rwa [hd] at this)
    have a2 : t ∈ bitsOf y := (mem_bitsOf hy64).2 (by have := ht.2 j hjn; unfold tr lq at this; rwa [hd] at this)
    obtain ⟨c, hc⟩ := List.length_eq_one_iff.1 e
    rw [hc, List.mem_singleton] at a1 a2
    omega
  · obtain ⟨hd, hy64⟩ := hget t _ gt
    have : bitsOf us[t] = [t] := by
      refine rise_uniq _ _ (bitsOf_rise _) (by simp) fun z => ?_
      rw [mem_bitsOf hy64, List.mem_singleton, ← hd]
      constructor
      · intro hz
        have hzn := bit_lt (getD_lt hi t) hz
        exact h.anti z t hzn ht.1 (ht.2 z hzn) hz
      · rintro rfl
        exact h.refl z ht.1
    rw [this]; rfl
end Go.Proofs.YteicbhkimepbaaaGreatDoor
namespace Go.Proofs.YteicbhkimepbaaaGreatDoor
set_option linter.unusedVariables false
set_option linter.unusedSimpArgs false
set_option maxRecDepth 100000
open Go.RowKit Fw
theorem c59 (Γ : Nat → PV) (hΓ : Tab64 Γ) (ns : List (List UInt8)) (us : List Nat) (hw : W64 us) : Gives Tryz.prog Γ 59 [.agg [.vec (ns.map S1) false, .vec (us.map U1) false]] (.bool (rightB ns us)) := by
  refine fn_of_awp Tryz.func59 rfl (by simp [Tryz.f59]) rfl fun H => ?_
  refine awp_bd fun hbd0 => ?_
  refine awp_seq ?_
  refine awp_run rfl (by simp only [fwA, seval] <;> rfl) ?_
  have g0 : (H ++ [Blk.box [.vec (ns.map S1) false, .vec (us.map U1) false]])[H.length]? = some (.box [.vec (ns.map S1) false, .vec (us.map U1) false]) := by rw [Fw.get_at0]; rfl
  have h35 := c101 Γ ns
  generalize hK : H ++ [Blk.box [.vec (ns.map S1) false, .vec (us.map U1) false]] = K at g0 ⊢
  refine awp_seq ?_
  refine awp_seq ?_
  by_cases h1 : (64 : Int) < (ns.length : Int)
  · refine awp_region rfl ?_
    refine aops_run 13 (by simp only [fwA, seval, gfw, bx, dx, bitfw, g0, h1] <;> rfl) ?_
    refine aops_run 6 (by simp only [fwA, seval, gfw, bx, dx, bitfw, g0, h1] <;> rfl) ?_
    refine aops_end ?_
    refine awp_cond (b := true) (by simp [alook, aput, ev]) ?_
    refine awp_seq ?_
    refine awp_run rfl (by simp only [fwA, seval] <;> rfl) ?_
    refine awp_ret ?_
    subst hK
    exact gives_end (.inl rfl) _ (by unfold rightB; rw [decide_eq_false (by omega)]; rfl)
  by_cases h2 : (us.length : Int) = (ns.length : Int)
  rotate_left
  · refine awp_region rfl ?_
    refine aops_run 13 (by simp only [fwA, seval, gfw, bx, dx, bitfw, g0, h1, h2] <;> rfl) ?_
    refine aops_run 6 (by simp only [fwA, seval, gfw, bx, dx, bitfw, g0, h1, h2] <;> rfl) ?_
    refine aops_end ?_
    refine awp_cond (b := true) (by simp [alook, aput, ev]) ?_
    refine awp_seq ?_
    refine awp_run rfl (by simp only [fwA, seval] <;> rfl) ?_
    refine awp_ret ?_
    subst hK
    exact gives_end (.inl rfl) _ (by unfold rightB; rw [decide_eq_false (by omega : ¬ us.length = ns.length), Bool.and_false]; rfl)
  cases h3 : namedB ns
  · rw [h3] at h35
    refine awp_region rfl ?_
    refine aops_run 13 (by simp only [fwA, seval, gfw, bx, dx, bitfw, g0, h1, h2] <;> rfl) ?_
    refine aops_run 3 (by simp only [fwA, seval, gfw, bx, dx, bitfw, g0, h1, h2] <;> rfl) ?_
    refine aops_fnIf rfl rfl rfl rfl rfl en101 h35 ?_
    refine aops_run 2 (by simp only [fwA, seval, gfw, bx, dx, bitfw, g0, h1, h2] <;> rfl) ?_
    refine aops_end ?_
    refine awp_cond (b := true) (by simp [alook, aput, ev]) ?_
    refine awp_seq ?_
    refine awp_run rfl (by simp only [fwA, seval] <;> rfl) ?_
    refine awp_ret ?_
    subst hK
    exact gives_end (.inl rfl) _ (by unfold rightB; rw [h3, Bool.and_false]; rfl)
  rw [h3] at h35
  refine awp_region rfl ?_
  refine aops_run 13 (by simp only [fwA, seval, gfw, bx, dx, bitfw, g0, h1, h2] <;> rfl) ?_
  refine aops_run 3 (by simp only [fwA, seval, gfw, bx, dx, bitfw, g0, h1, h2] <;> rfl) ?_
  refine aops_fnIf rfl rfl rfl rfl rfl en101 h35 ?_
  refine aops_run 2 (by simp only [fwA, seval, gfw, bx, dx, bitfw, g0, h1, h2] <;> rfl) ?_
  refine aops_end ?_
  refine awp_cond (b := false) (by simp [alook, aput, ev]) (awp_skip ?_)
  have hn : us.length ≤ 64 := by omega
  have hR : rightB ns us = (us.all (fun x => decide (x < 2 ^ us.length)) && (ordB us.length (lq us) && boundB us.length (lq us))) := by
    unfold rightB
    rw [h3, decide_eq_true (by omega : ns.length ≤ 64), decide_eq_true (by omega : us.length = ns.length)]; rfl
  rw [hR]
  have h46 := c103 Γ 102 en102 [.ptr H.length 0] (fun x => !decide (x < 2 ^ us.length)) us K (fun x hx => c102 Γ ns us hn x (hw x hx) K H.length g0)
  have hany : us.any (fun x => !decide (x < 2 ^ us.length)) = !us.all (fun x => decide (x < 2 ^ us.length)) := by
    rw [List.not_all_eq_any_not]
  rw [hany] at h46
  refine awp_seq ?_
  refine awp_run rfl (by simp only [fwA, seval] <;> rfl) ?_
  refine awp_seq ?_
  refine awp_region rfl ?_
  refine aops_run 3 (by simp only [fwA, seval, gfw, bx, dx, bitfw, g0] <;> rfl) ?_
  refine aops_call rfl rfl rfl en103 (h46.mono fun p H' hp => ?_)
  obtain ⟨rfl, e⟩ := hp
  rw [e]
  cases h4 : us.all (fun x => decide (x < 2 ^ us.length))
  · refine aops_run 10 (by simp only [fwA, seval, gfw, bx, dx, bitfw] <;> rfl) ?_
    refine aops_end ?_
    refine awp_ret ?_
    subst hK
    exact gives_end (.inl rfl) _ rfl
  have hi : Inn us.length us := fun x hx => by
    rw [List.all_eq_true] at h4
    exact of_decide_eq_true (h4 x hx)
  have h37 := c104 Γ hΓ ns us hn hi
  have h38 := c105 Γ hΓ ns us hn hi
  refine aops_run 3 (by simp only [fwA, seval, gfw, bx, dx, bitfw, g0] <;> rfl) ?_
  refine aops_fnIf rfl rfl rfl rfl rfl en104 h37 ?_
  cases h5 : ordB us.length (lq us)
  · refine aops_run 6 (by simp only [fwA, seval, gfw, bx, dx, bitfw, g0] <;> rfl) ?_
    refine aops_end ?_
    refine awp_ret ?_
    subst hK
    exact gives_end (.inl rfl) _ rfl
  rw [boundP_eq (ordB_iff.1 h5)] at h38
  refine aops_run 3 (by simp only [fwA, seval, gfw, bx, dx, bitfw, g0] <;> rfl) ?_
  refine aops_fnIf rfl rfl rfl rfl rfl en105 h38 ?_
  refine aops_run 2 (by simp only [fwA, seval, gfw, bx, dx, bitfw, g0] <;> rfl) ?_
  refine aops_end ?_
  refine awp_ret ?_
  subst hK
  exact gives_end (.inl rfl) _ rfl
theorem c95 (Γ : Nat → PV) (us : List Nat) (v : Nat) : Gives Tryz.prog Γ 95 [.vec (us.map U1) false, .int .u64 (v : Int)] (.int .i64 (idxF (fun x => decide (v = x)) us)) := by
  refine fn_of_awp Tryz.func95 rfl (by simp [Tryz.f95]) rfl fun H => ?_
  refine awp_vlen 0 rfl fun hsl => ?_
  rw [List.length_map] at hsl
  refine awp_seq ?_
  refine awp_run rfl (by simp only [fwA, seval] <;> rfl) ?_
  refine awp_seq ?_
  refine awp_seq ?_
  refine awp_run rfl (by simp only [fwA, seval, gfw, bx, dx, bitfw] <;> rfl) ?_
  refine awp_block ?_
  refine awp_for [0, 1, 7, 8] (fun i : Nat => [.vec (us.map U1) false, .int .u64 (v : Int), .int .i64 (us.length : Int), .int .i64 (i : Int)]) (fun _ => H) (fun i => us.length - i) (fun i => i ≤ us.length ∧ ∀ j y, j < i → us[j]? = some y → decide (v = y) = false) 0 rfl rfl ⟨Nat.zero_le _, fun j y hj => by omega⟩ fun i hs => ?_
  obtain ⟨hil, hno⟩ := hs
  refine awp_seq ?_
  refine awp_run rfl (by simp only [fwA, seval, gfw, bx, dx, bitfw] <;> rfl) ?_
  refine awp_seq ?_
  refine awp_cond (by simp only [fwA, seval] <;> rfl) ?_
  by_cases hc : (i : Int) < us.length
  rotate_left
  · simp only [hc, decide_false, Bool.false_eq_true, ↓reduceIte]
    refine awp_exit ?_
    have e : i = us.length := by omega
    subst e
    refine awp_seq ?_
    refine awp_run rfl (by simp only [fwA, seval] <;> rfl) ?_
    refine awp_ret ?_
    exact gives_end0 (.inl rfl) (by rw [idxF_none hno]; rfl)
  simp only [hc, decide_true, ↓reduceIte]
  refine awp_skip ?_
  have hill : i < us.length := by omega
  have ga : us[i]? = some us[i] := List.getElem?_eq_getElem hill
  generalize us[i] = x at ga
  have hwi : IntKind.i64.wrap ((i : Int) + 1) = ((i + 1 : Nat) : Int) := wrapS i (by omega)
  refine awp_seq ?_
  refine awp_block ?_
  refine awp_seq ?_
  refine awp_run rfl (by simp only [fwA, seval] <;> rfl) ?_
  refine awp_seq ?_
  by_cases hq : (v : Int) = (x : Int)
  · refine awp_run rfl (by simp only [fwA, seval, gfw, bx, dx, bitfw, ga, hq] <;> rfl) ?_
    refine awp_cond (b := true) (by simp [alook, aput, ev]) ?_
    refine awp_seq ?_
    refine awp_run rfl (by simp only [fwA, seval] <;> rfl) ?_
    refine awp_ret ?_
    exact gives_end0 (.inl rfl) (by rw [idxF_some hno ga (decide_eq_true (by omega))]; rfl)
  · refine awp_run rfl (by simp only [fwA, seval, gfw, bx, dx, bitfw, ga, hq] <;> rfl) ?_
    refine awp_cond (b := false) (by simp [alook, aput, ev]) (awp_skip ?_)
    refine awp_run rfl (by simp only [fwA, seval] <;> rfl) ?_
    refine ⟨i + 1, by omega, ⟨by omega, fun j y hj hy => ?_⟩, ?_, rfl, rfl⟩
    · by_cases hji : j = i
      · subst hji; rw [ga] at hy; cases hy; exact decide_eq_false (by omega)
      · exact hno j y (by omega) hy
    · simp only [fwA, seval, gfw, hwi]
theorem shr_div {x : Nat} (a : Nat) (hx : x < 2 ^ 64) : (x : Int).fdiv (2 ^ min a IntKind.u64.bits) = ((x / 2 ^ a : Nat) : Int) := by rw [uShr a hx, Nat.shiftRight_eq_div_pow]
theorem and_m {x : Nat} (m : Nat) (hx : x < 2 ^ 64) : IntKind.u64.wrap ((BitVec.ofInt IntKind.u64.bits (x : Int) &&& BitVec.ofInt IntKind.u64.bits (m : Int)).toNat : Int) = ((x &&& m : Nat) : Int) := uAnd hx
theorem add_u {x y : Nat} (h : x + y < 18446744073709551616) : IntKind.u64.wrap ((x : Int) + (y : Int)) = ((x + y : Nat) : Int) := by
  have e : (x : Int) + (y : Int) = ((x + y : Nat) : Int) := by omega
  rw [e, uWrapN h]
theorem low7 (x : Nat) (hx : x < 18446744073709551616) : IntKind.i64.wrap ((BitVec.ofInt IntKind.i64.bits (IntKind.i64.wrap (x : Int)) &&& BitVec.ofInt IntKind.i64.bits 127).toNat : Int) = ((x &&& 127 : Nat) : Int) := by
  have e1 : BitVec.ofInt 64 (IntKind.i64.wrap (x : Int)) = BitVec.ofInt 64 (x : Int) := by
    apply BitVec.eq_of_toNat_eq
    rw [BitVec.toNat_ofInt, BitVec.toNat_ofInt]
    have : IntKind.i64.wrap (x : Int) = if (x : Int) < 9223372036854775808 then (x : Int) else (x : Int) - 18446744073709551616 := by
      unfold IntKind.wrap
      have hb : IntKind.i64.bits = 64 := rfl
      have hsg : IntKind.i64.signed = true := rfl
      simp only [hb, hsg, Bool.true_and, decide_eq_true_eq]
      split <;> split <;> omega
    rw [this]
    split
    · rfl
    · congr 1
      omega
  show IntKind.i64.wrap ((BitVec.ofInt 64 (IntKind.i64.wrap (x : Int)) &&& BitVec.ofInt 64 127).toNat : Int) = _
  rw [e1]
  have e2 : (BitVec.ofInt 64 (x : Int) &&& BitVec.ofInt 64 127).toNat = x &&& 127 := and_nat (x := x) (y := 127) hx
  rw [e2]
  have : x &&& 127 ≤ 127 := Nat.and_le_right
  exact wrapId ⟨by omega, by omega⟩
set_option maxRecDepth 10000 in
theorem c118 (Γ : Nat → PV) (x : Nat) (hx : x < 2 ^ 64) : Gives Tryz.prog Γ 118 [.int .u64 (x : Int)] (.int .i64 (((bitsOf x).length : Nat) : Int)) := by
  have hpop := pop_all x hx
  simp only at hpop
  generalize hx1 : (x / 2 &&& 6148914691236517205) + (x &&& 6148914691236517205) = x1 at hpop
  generalize hx2 : (x1 / 4 &&& 3689348814741910323) + (x1 &&& 3689348814741910323) = x2 at hpop
  generalize hx3 : (x2 / 16 + x2) &&& 1085102592571150095 = x3 at hpop
  generalize hy1 : x3 + x3 / 256 = y1 at hpop
  generalize hy2 : y1 + y1 / 65536 = y2 at hpop
  generalize hy3 : y2 + y2 / 4294967296 = y3 at hpop
  obtain ⟨p1, p2, p3, p4, p5, p6, p7⟩ := hpop
  rw [← p7]
  have l0 : x / 2 < 2 ^ 64 := Nat.lt_of_le_of_lt (Nat.div_le_self _ _) hx
  have l1 : x1 / 4 < 2 ^ 64 := Nat.lt_of_le_of_lt (Nat.div_le_self _ _) p1
  have p3' : x3 < 18446744073709551616 := by rw [← hx3]; exact Nat.lt_of_le_of_lt Nat.and_le_left p3
  have a1 : (x : Int).fdiv (2 ^ min 1 IntKind.u64.bits) = ((x / 2 : Nat) : Int) := shr_div 1 hx
  have a2 : IntKind.u64.wrap ((BitVec.ofInt IntKind.u64.bits ((x / 2 : Nat) : Int) &&& BitVec.ofInt IntKind.u64.bits 6148914691236517205).toNat : Int) = ((x / 2 &&& 6148914691236517205 : Nat) : Int) := and_m 6148914691236517205 l0
  have a3 : IntKind.u64.wrap ((BitVec.ofInt IntKind.u64.bits (x : Int) &&& BitVec.ofInt IntKind.u64.bits 6148914691236517205).toNat : Int) = ((x &&& 6148914691236517205 : Nat) : Int) := and_m 6148914691236517205 hx
  have a4 : IntKind.u64.wrap (((x / 2 &&& 6148914691236517205 : Nat) : Int) + ((x &&& 6148914691236517205 : Nat) : Int)) = (x1 : Int) := by rw [add_u (by rw [hx1]; exact p1), hx1]
  have b1 : (x1 : Int).fdiv (2 ^ min 2 IntKind.u64.bits) = ((x1 / 4 : Nat) : Int) := shr_div 2 p1
  have b2 : IntKind.u64.wrap ((BitVec.ofInt IntKind.u64.bits ((x1 / 4 : Nat) : Int) &&& BitVec.ofInt IntKind.u64.bits 3689348814741910323).toNat : Int) = ((x1 / 4 &&& 3689348814741910323 : Nat) : Int) := and_m 3689348814741910323 l1
  have b3 : IntKind.u64.wrap ((BitVec.ofInt IntKind.u64.bits (x1 : Int) &&& BitVec.ofInt IntKind.u64.bits 3689348814741910323).toNat : Int) = ((x1 &&& 3689348814741910323 : Nat) : Int) := and_m 3689348814741910323 p1
  have b4 : IntKind.u64.wrap (((x1 / 4 &&& 3689348814741910323 : Nat) : Int) + ((x1 &&& 3689348814741910323 : Nat) : Int)) = (x2 : Int) := by rw [add_u (by rw [hx2]; exact p2), hx2]
  have d1 : (x2 : Int).fdiv (2 ^ min 4 IntKind.u64.bits) = ((x2 / 16 : Nat) : Int) := shr_div 4 p2
  have d2 : IntKind.u64.wrap (((x2 / 16 : Nat) : Int) + (x2 : Int)) = ((x2 / 16 + x2 : Nat) : Int) := add_u p3
  have d3 : IntKind.u64.wrap ((BitVec.ofInt IntKind.u64.bits ((x2 / 16 + x2 : Nat) : Int) &&& BitVec.ofInt IntKind.u64.bits 1085102592571150095).toNat : Int) = (x3 : Int) := by rw [← hx3]; exact and_m 1085102592571150095 p3
  have e1 : (x3 : Int).fdiv (2 ^ min 8 IntKind.u64.bits) = ((x3 / 256 : Nat) : Int) := shr_div 8 p3'
  have e2 : IntKind.u64.wrap ((x3 : Int) + ((x3 / 256 : Nat) : Int)) = (y1 : Int) := by rw [add_u (by rw [hy1]; exact p4), hy1]
  have f1 : (y1 : Int).fdiv (2 ^ min 16 IntKind.u64.bits) = ((y1 / 65536 : Nat) : Int) := shr_div 16 p4
  have f2 : IntKind.u64.wrap ((y1 : Int) + ((y1 / 65536 : Nat) : Int)) = (y2 : Int) := by rw [add_u (by rw [hy2]; exact p5), hy2]
  have k1 : (y2 : Int).fdiv (2 ^ min 32 IntKind.u64.bits) = ((y2 / 4294967296 : Nat) : Int) := shr_div 32 p5
  have k2 : IntKind.u64.wrap ((y2 : Int) + ((y2 / 4294967296 : Nat) : Int)) = (y3 : Int) := by rw [add_u (by rw [hy3]; exact p6), hy3]
  have k3 := low7 y3 p6
  clear hx1 hx2 hx3 hy1 hy2 hy3 p7
  refine fn_of_awp Tryz.func118 rfl (by simp [Tryz.f118]) rfl fun H => ?_
  refine awp_seq ?_
  refine awp_run rfl (by simp only [fwA, seval] <;> rfl) ?_
  refine awp_seq ?_
  refine awp_run rfl (by simp only [fwA, seval, gfw, bx, dx, bitfw, a1, a2, a3, a4] <;> rfl) ?_
  refine awp_seq ?_
  refine awp_run rfl (by simp only [fwA, seval, gfw, bx, dx, bitfw, b1, b2, b3, b4] <;> rfl) ?_
  refine awp_seq ?_
  refine awp_run rfl (by simp only [fwA, seval, gfw, bx, dx, bitfw, d1, d2, d3] <;> rfl) ?_
  refine awp_seq ?_
  refine awp_run rfl (by simp only [fwA, seval, gfw, bx, dx, bitfw, e1, e2] <;> rfl) ?_
  refine awp_seq ?_
  refine awp_run rfl (by simp only [fwA, seval, gfw, bx, dx, bitfw, f1, f2] <;> rfl) ?_
  refine awp_seq ?_
  refine awp_run rfl (by simp only [fwA, seval, gfw, bx, dx, bitfw, k1, k2] <;> rfl) ?_
  refine awp_seq ?_
  refine awp_run rfl (by simp only [fwA, seval, gfw, bx, dx, bitfw, k3] <;> rfl) ?_
  refine awp_ret ?_
  exact gives_end0 (.inl rfl) rfl
theorem c117 (Γ : Nat → PV) (x : Nat) (hx : x < 2 ^ 64) : Gives Tryz.prog Γ 117 [.int .u64 (x : Int)] (.bool (decide ((bitsOf x).length = 1))) := by
  have h58 := c118 Γ x hx
  refine fn_of_awp Tryz.func117 rfl (by simp [Tryz.f117]) rfl fun H => ?_
  refine awp_seq ?_
  refine awp_run rfl (by simp only [fwA, seval] <;> rfl) ?_
  refine awp_seq ?_
  refine awp_region rfl ?_
  refine aops_run 1 (by simp only [fwA, seval, gfw, bx, dx, bitfw] <;> rfl) ?_
  refine aops_fn rfl rfl rfl en118 h58 ?_
  refine aops_run 2 (by simp only [fwA, seval, gfw, bx, dx, bitfw] <;> rfl) ?_
  refine aops_end ?_
  refine awp_ret ?_
  have e : decide ((((bitsOf x).length : Nat) : Int) = 1) = decide ((bitsOf x).length = 1) := decide_eq_decide.2 (by omega)
  exact gives_end0 (.inl rfl) (by rw [← e]; rfl)
end Go.Proofs.YteicbhkimepbaaaGreatDoor
