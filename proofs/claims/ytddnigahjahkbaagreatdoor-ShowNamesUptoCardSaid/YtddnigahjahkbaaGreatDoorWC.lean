/- The framework: reading the arguments where what is read is of a bulk that is told. -/
import Derived.Test.YtddnigahjahkbaaGreatDoorWB
import Derived.Test.YtddnigahjahkbaaGreatDoorProg
import Derived.Maps.Own
import Derived.Sort.EncStr
import Derived.Shelf.Strconv.Itoa4
import Derived.Lib.ItoaLen
import Derived.Shelf.Strings.OnBuilder
import Derived.Shelf.Strconv.ParseIntPublic10
import Derived.Shelf.GgSortFunc.RowK
import Derived.Sort.Row
namespace Go.Proofs.YtddnigahjahkbaaGreatDoor.Fw
set_option linter.unusedVariables false
set_option linter.unusedSimpArgs false
set_option maxRecDepth 100000
open Go.RowKit Go.ChangeShapes Go.WideShapes
mutual
def bulk {H : Type} : DataW H → Nat
  | .lit (.string bytes) => bytes.length + 1
  | .lit _ => 1
  | .nil => 1
  | .ptr d => bulk d + 1
  | .slice elems spare => bulkAll elems + bulkAll spare + 1
  | .agg parts => bulkAll parts + 1
  | .iface _ d => bulk d + 1
  | .map entries => bulkEntries entries + 1
  | .held _ => 1
def bulkAll {H : Type} : List (DataW H) → Nat
  | [] => 0
  | d :: r => bulk d + bulkAll r
def bulkEntries {H : Type} : List (Lit × DataW H) → Nat
  | [] => 0
  | x :: r => bulkEntry x + bulkEntries r
def bulkEntry {H : Type} : Lit × DataW H → Nat
  | (.string bytes, d) => bytes.length + bulk d + 1
  | (_, d) => bulk d + 1
end
theorem bulkAll_append {H : Type} : ∀ a b : List (DataW H), bulkAll (a ++ b) = bulkAll a + bulkAll b
  | [], b => by simp [bulkAll]
  | d :: a, b => by simp only [List.cons_append, bulkAll, bulkAll_append a b]; omega
def DecB (P : Program) (W : World) (fuel : Nat) (t : TypeId) {X : Type} (enc : X → List PV) (good : X → Prop) (w : X → Nat) : Prop :=
  ∀ (Hh : Type) (e : TypeId × Value → Hh) (cs : List Value) (y : DataW Hh × List MemPlace), DataW.trod e P W 0 (fun _ => true) true fuel t cs = some y → (y.1.weights P t).all (· ≤ reachBytes) = true → ∃ x, good x ∧ w x ≤ bulk y.1 ∧ Reps (ofW W) 0 (enc x) cs ∧ ∀ u ∈ cs, u.oneCell' = true
section
variable {P : Program} {W : World} {n : Nat} {t : TypeId} {X Y : Type} {enc : X → List PV} {good : X → Prop} {w : X → Nat}
theorem DecB.zero : DecB P W 0 t enc good w := fun Hh e cs y h _ => by simp [DataW.trod] at h
theorem DecB.weaken {good' : X → Prop} {w' : X → Nat} (h : DecB P W n t enc good w) (hg : ∀ x, good x → good' x) (hw : ∀ x, w' x ≤ w x) : DecB P W n t enc good' w' := fun Hh e cs y hy hwt =>
  let ⟨x, h1, h0, h2, h3⟩ := h Hh e cs y hy hwt; ⟨x, hg x h1, Nat.le_trans (hw x) h0, h2, h3⟩
theorem DecB.map {enc' : Y → List PV} {good' : Y → Prop} {w' : Y → Nat} (h : DecB P W n t enc good w) (g : X → Y) (he : ∀ x, enc' (g x) = enc x) (hg : ∀ x, good x → good' (g x)) (hw : ∀ x, w' (g x) ≤ w x) : DecB P W n t enc' good' w' := fun Hh e cs y hy hwt =>
  let ⟨x, h1, h0, h2, h3⟩ := h Hh e cs y hy hwt; ⟨g x, hg x h1, Nat.le_trans (hw x) h0, by rw [he]; exact h2, h3⟩
theorem decB_int {k : IntKind} (ht : P.underlying t = some (.int k)) : DecB P W n t (fun i : Int => [.int k i]) (fun i => (Lit.int k i).wf = true) (fun _ => 1) := fun Hh e cs y h _ => by
  obtain ⟨b, rfl, rfl, hw⟩ := DataW.trod_int ht h
  exact ⟨b, hw, by simp [bulk], reps_one (.int _ _ _), fun u hu => by simp at hu; subst hu; rfl⟩
theorem decB_str (ht : P.underlying t = some .string) : DecB P W n t (fun s : List UInt8 => [.str s]) (fun s => s.length ≤ reachBytes) (fun s => s.length + 1) := fun Hh e cs y h hwt => by
  obtain ⟨s, rfl, rfl, hw⟩ := DataW.trod_string ht h
  refine ⟨s.data.toList, by simpa [DataW.weights] using hwt, by simp [bulk], ?_, fun u hu => by simp at hu; subst hu; rfl⟩
  have hs : Rep (ofW W) 0 (.str s.data.toList) (.string ⟨s.data.toList.toArray⟩) := .str _ _ (by rw [Array.length_toList]; exact hw)
  exact reps_one (by simpa using hs)
theorem sum_bulk {Hh : Type} : ∀ (xs : List X) (ds : List (DataW Hh)), xs.length = ds.length → (∀ (i : Nat) x d, xs[i]? = some x → ds[i]? = some d → w x ≤ bulk d) → (xs.map w).sum ≤ bulkAll ds
  | [], [], _, _ => Nat.le_refl _
  | x :: xs, d :: ds, hl, h => by
    have h1 := h 0 x d rfl rfl
    have h2 := sum_bulk xs ds (by simpa using hl) fun i x d a b => h (i + 1) x d (by simpa using a) (by simpa using b)
    simp only [List.map_cons, List.sum_cons, bulkAll]; omega
  | [], _ :: _, h, _ => by simp at h
  | _ :: _, [], h, _ => by simp at h
theorem decB_slice {e : TypeId} (ht : P.underlying t = some (.slice e)) (hsz : 0 < P.cellsOf e) (he : DecB P W n e enc good w) :
    DecB P W (n + 1) t (fun xs : List X => [.vec (xs.map enc) false]) (fun xs => xs.length * P.bytesOf e ≤ reachBytes ∧ ∀ x ∈ xs, good x) (fun xs => (xs.map w).sum + 1) := fun Hh en cs y h hwt => by
  rcases DataW.trod_slice ht h with ⟨rfl, rfl⟩ | ⟨a, len, cap, elems, rest, k, hk, rfl, rfl, hb, hl, hc, hlen, hel, hsp, hns⟩
  · exact ⟨[], ⟨by simp, fun x h => by cases h⟩, by simp [bulk], reps_one (.vec0 _ _ _), fun u hu => by simp at hu; subst hu; rfl⟩
  · obtain rfl : k = n := by omega
    simp only [DataW.weights, ht, List.all_cons, List.all_append, Bool.and_eq_true, decide_eq_true_eq, List.length_map] at hwt
    obtain ⟨hw1, hw2, _⟩ := hwt
    have hget : ∀ i, i < len → ∃ x, (good x ∧ ∀ d, elems[i]? = some d → w x ≤ bulk d.1) ∧ ∃ ci, W.cells? 0 (a.add (i * P.cellsOf e)) (P.cellsOf e) = some ci ∧ Reps (ofW W) 0 (enc x) ci ∧ ∀ u ∈ ci, u.oneCell' = true := fun i hi => by
      have h1 := hel i hi
      rw [List.getElem?_eq_getElem (by omega)] at h1
      obtain ⟨ci, h2, h3⟩ := Option.bind_eq_some_iff.1 h1
      obtain ⟨x, h4, hwx, h5, h6⟩ := he Hh en ci _ h3 (weightsAll_at (i := i) hw2 (by rw [List.getElem?_map, List.getElem?_eq_getElem (by omega)]; rfl))
      exact ⟨x, ⟨h4, fun d hd => by rw [List.getElem?_eq_getElem (by omega)] at hd; cases hd; exact hwx⟩, ci, h2, h5, h6⟩
    obtain ⟨xs, h1, h2⟩ := pick_list len hget
    refine ⟨xs, ⟨by rw [h1, ← hlen]; exact Nat.le_trans (Nat.mul_le_mul_right _ (Nat.le_add_right _ _)) hw1, fun x hx => ?_⟩, ?_, reps_one ?_, fun u hu => by simp at hu; subst hu; rfl⟩
    · obtain ⟨i, hi⟩ := List.mem_iff_getElem?.1 hx
      exact (h2 i x hi).1.1
    · have := sum_bulk (w := w) xs (elems.map (·.1)) (by rw [List.length_map, h1, hlen]) fun i x d hx hd => by
        rw [List.getElem?_map] at hd
        obtain ⟨d', hd', rfl⟩ := Option.map_eq_some_iff.1 hd
        exact (h2 i x hx).1.2 d' hd'
      simp only [bulk]; omega
    · by_cases hcap : cap = 0
      · have h0 : len = 0 := by omega
        subst h0 hcap
        have : xs = [] := List.eq_nil_of_length_eq_zero h1
        subst this
        exact .vec0 _ _ _
      · have hspot : a.spot = none := by
          by_cases h0 : 0 < len
          · obtain ⟨x, _, ci, hci, _⟩ := hget 0 h0
            obtain ⟨hcl, hcc⟩ := cells_spec hci
            have := hcc 0 hsz
            rw [List.getElem?_eq_getElem (by omega)] at this
            have := cell_spot this
            simpa [Addr.add] using this
          · have h00 : len = 0 := by omega
            subst h00
            have h1 := (hsp rfl).2 0 (by omega)
            have h1l := (hsp rfl).1
            rw [List.getElem?_eq_getElem (by omega)] at h1
            obtain ⟨ci, h2, h3⟩ := Option.bind_eq_some_iff.1 h1
            obtain ⟨hcl, hcc⟩ := cells_spec h2
            have := hcc 0 hsz
            rw [List.getElem?_eq_getElem (by omega)] at this
            have := cell_spot this
            simpa [Addr.add] using this
        obtain ⟨ab, ao, asp⟩ := a
        simp only at hspot
        subst hspot
        have key : ∀ (i j : Nat) el c, (xs.map enc)[i]? = some el → el[j]? = some c → j < P.cellsOf e ∧ ∃ u, W.cell? ⟨ab, ao + (i * P.cellsOf e + j), none⟩ = some u ∧ Rep (ofW W) 0 c u ∧ u.oneCell' = true := fun i j el c hi hj => by
          rw [List.getElem?_map] at hi
          obtain ⟨x, hx, rfl⟩ := Option.map_eq_some_iff.1 hi
          obtain ⟨_, ci, h3, h4, h5⟩ := h2 i x hx
          obtain ⟨hcl, hcc⟩ := cells_spec h3
          have hj' : j < ci.length := by rw [← h4.1]; exact (List.getElem?_eq_some_iff.1 hj).1
          have h6 := hcc j (by omega)
          rw [List.getElem?_eq_getElem hj'] at h6
          refine ⟨by omega, ci[j], ?_, h4.2 j c _ hj (List.getElem?_eq_getElem hj'), h5 _ (List.getElem_mem hj')⟩
          rw [← h6, Fw.add_at, Fw.add_at, Nat.add_assoc]
        have hvs : ∀ (i j : Nat) el c, (xs.map enc)[i]? = some el → el[j]? = some c → W.cell? ⟨ab, ao + (i * P.cellsOf e + j), none⟩ = some ((W.cell? ⟨ab, ao + (i * P.cellsOf e + j), none⟩).getD undef) := fun i j el c hi hj => by
          obtain ⟨_, u, h3, _⟩ := key i j el c hi hj
          rw [h3]; rfl
        have := Rep.vec (G := ofW W) 0 (xs.map enc) false ab ao (P.cellsOf e) cap (fun k => (W.cell? ⟨ab, ao + k, none⟩).getD undef) (by simp; unfold maxLen at hc; omega) (by simp; omega) (fun hf => by cases hf) (fun el hel => by
            obtain ⟨x, hx, rfl⟩ := List.mem_map.1 hel
            obtain ⟨i, hi⟩ := List.mem_iff_getElem?.1 hx
            obtain ⟨_, ci, h3, h4, _⟩ := h2 i x hi
            rw [h4.1]; exact (cells_spec h3).1) hvs (fun i j el c hi hj => by
            obtain ⟨_, u, h3, h4, _⟩ := key i j el c hi hj
            simp only [h3]; exact h4) (fun i j el c hi hj => by
            obtain ⟨_, u, h3, _, h5⟩ := key i j el c hi hj
            simp only [h3]; exact h5)
        rw [List.length_map, h1] at this
        exact this
def DecFB (P : Program) (W : World) (n : Nat) (fs : List Field) (off : Nat) {X : Type} (enc : X → List PV) (good : X → Prop) (w : X → Nat) : Prop :=
  ∀ (Hh : Type) (e : TypeId × Value → Hh) (cs : List Value) (ds : List (DataW Hh)), ds.length = fs.length → (∀ (i : Nat) f, fs[i]? = some f → ∃ y, ds[i]? = some y.1 ∧ DataW.trod e P W 0 (fun _ => true) true n f.type ((cs.drop f.offset).take (P.cellsOf f.type)) = some y ∧ (y.1.weights P f.type).all (· ≤ reachBytes) = true) → cs.length = off + (fs.map fun f => P.cellsOf f.type).sum →
    ∃ x, good x ∧ w x ≤ bulkAll ds ∧ Reps (ofW W) 0 (enc x) (cs.drop off) ∧ ∀ u ∈ cs.drop off, u.oneCell' = true
theorem decFB_last {f : Field} {off : Nat} (ho : f.offset = off) (h : DecB P W n f.type enc good w) : DecFB P W n [f] off enc good w := fun Hh e cs ds hd hf hl => by
  obtain ⟨y, hy0, hy, hw⟩ := hf 0 f rfl
  obtain ⟨x, h1, h0, h2, h3⟩ := h Hh e _ _ hy hw
  simp at hl
  have : (cs.drop f.offset).take (P.cellsOf f.type) = cs.drop off := by rw [ho, List.take_of_length_le (by simp; omega)]
  rw [this] at h2 h3
  refine ⟨x, h1, ?_, h2, h3⟩
  cases ds with
  | nil => simp at hy0
  | cons d ds => simp only [List.getElem?_cons_zero, Option.some.injEq] at hy0; subst hy0; simp only [bulkAll]; omega
theorem decFB_cons {f : Field} {fs : List Field} {off off' : Nat} {enc' : Y → List PV} {good' : Y → Prop} {w' : Y → Nat} (ho : f.offset = off) (ho' : off + P.cellsOf f.type = off') (h : DecB P W n f.type enc good w) (hs : DecFB P W n fs off' enc' good' w') :
    DecFB P W n (f :: fs) off (fun xy : X × Y => enc xy.1 ++ enc' xy.2) (fun xy => good xy.1 ∧ good' xy.2) (fun xy => w xy.1 + w' xy.2) := fun Hh e cs ds hd hf hl => by
  cases ds with
  | nil => simp at hd
  | cons d ds =>
  obtain ⟨y, hy0, hy, hw⟩ := hf 0 f rfl
  simp only [List.getElem?_cons_zero, Option.some.injEq] at hy0
  subst hy0
  obtain ⟨x, h1, h0, h2, h3⟩ := h Hh e _ _ hy hw
  obtain ⟨x', k1, k0, k2, k3⟩ := hs Hh e cs ds (by simpa using hd) (fun i g hg => by
    obtain ⟨y', a, b⟩ := hf (i + 1) g (by simpa using hg)
    exact ⟨y', by simpa using a, b⟩) (by simp at hl; omega)
  have hsplit : cs.drop off = (cs.drop off).take (P.cellsOf f.type) ++ cs.drop off' := by
    rw [← ho', ← List.drop_drop, List.take_append_drop]
  rw [ho] at h2 h3
  refine ⟨(x, x'), ⟨h1, k1⟩, by simp only [bulkAll]; omega, by rw [hsplit]; exact Reps.append h2 k2, fun u hu => ?_⟩
  rw [hsplit] at hu
  rcases List.mem_append.1 hu with hu | hu
  · exact h3 u hu
  · exact k3 u hu
theorem decB_struct {fs : Array Field} (ht : P.underlying t = some (.struct fs)) (hs : (fs.toList.map fun f => P.cellsOf f.type).sum = P.cellsOf t) (h : DecFB P W n fs.toList 0 enc good w) : DecB P W (n + 1) t enc good (fun x => w x + 1) := fun Hh e cs y hy hw => by
  obtain ⟨xs, k, hk, rfl, hl, hlen, hf⟩ := DataW.trod_struct ht hy
  simp only [DataW.weights, ht] at hw
  obtain rfl : k = n := by omega
  obtain ⟨x, h1, h0, h2, h3⟩ := h Hh e cs (xs.map (·.1)) (by simp [hlen]) (fun i f hi => by
    have h1 := hf i f (by simpa using hi)
    have hi' : i < xs.length := by rw [hlen]; simpa using (List.getElem?_eq_some_iff.1 hi).1
    exact ⟨xs[i], by rw [List.getElem?_map, List.getElem?_eq_getElem hi']; rfl, by rw [h1, List.getElem?_eq_getElem hi'], weightsEach_at (i := i) hw (by rw [List.getElem?_map, hi]; rfl) (by rw [List.getElem?_map, List.getElem?_eq_getElem hi']; rfl)⟩) (by rw [hs, hl]; simp)
  exact ⟨x, h1, by simp only [bulk]; omega, by simpa using h2, by simpa using h3⟩
def ReadsArgB (P : Program) (W : World) (t : TypeId) {X : Type} (one : X → PV) (good : X → Prop) (w : X → Nat) : Prop :=
  ∀ (Hh : Type) (e : TypeId × Value → Hh) (b : Nat) (v : Value) (d : DataW Hh) (ps : List MemPlace), Value.okWide P W .any b t v → DataW.Trod e P W 0 (fun _ => true) true t v d ps → (d.weights P t).all (· ≤ reachBytes) = true → ∃ x, good x ∧ w x ≤ bulk d ∧ Rep (ofW W) 0 (one x) v
def ReadsArgsB (P : Program) (W : World) (ts : List TypeId) {X : Type} (encs : X → List PV) (good : X → Prop) (w : X → Nat) : Prop :=
  ∀ (Hh : Type) (e : TypeId × Value → Hh) (b : Nat) (vs : List Value) (ds : List (DataW Hh)) (ps : List MemPlace), (∀ (j : Nat) t v, ts[j]? = some t → vs[j]? = some v → Value.okWide P W .any b t v) → DataW.TrodAll e P W 0 (fun _ => true) true ts vs ds ps →
    (∀ (i : Nat) t d, ts[i]? = some t → ds[i]? = some d → (d.weights P t).all (· ≤ reachBytes) = true) → ∃ x, good x ∧ w x ≤ bulkAll ds ∧ Reps (ofW W) 0 (encs x) vs
theorem argsB_nil : ReadsArgsB P W [] (fun _ : Unit => []) (fun _ => True) (fun _ => 0) := fun Hh e b vs ds ps _ hT _ => by
  obtain ⟨rfl, rfl, rfl⟩ := trodAll_nil hT
  exact ⟨(), trivial, Nat.zero_le _, Reps.nil _ _⟩
theorem argsB_cons {ts : List TypeId} {one : X → PV} {encs : Y → List PV} {good' : Y → Prop} {w' : Y → Nat} (h : ReadsArgB P W t one good w) (hs : ReadsArgsB P W ts encs good' w') :
    ReadsArgsB P W (t :: ts) (fun xy : X × Y => one xy.1 :: encs xy.2) (fun xy => good xy.1 ∧ good' xy.2) (fun xy => w xy.1 + w' xy.2) := fun Hh e b vs ds ps hv hT hw => by
  obtain ⟨v, vs', d, ds', p, q, rfl, rfl, rfl, h1, h2⟩ := trodAll_cons hT
  obtain ⟨x, k1, k0, k2⟩ := h Hh e b v d p (hv 0 t v rfl rfl) h1 (hw 0 t d rfl rfl)
  obtain ⟨y, k3, k00, k4⟩ := hs Hh e b vs' ds' q (fun j t' v' a c => hv (j + 1) t' v' (by simpa using a) (by simpa using c)) h2 (fun i t' d' a c => hw (i + 1) t' d' (by simpa using a) (by simpa using c))
  exact ⟨(x, y), ⟨k1, k3⟩, by simp only [bulkAll]; omega, Reps.cons k2 k4⟩
theorem readsB_cell {one : X → PV} (hc : ∀ b v, Value.okWide P W .any b t v → v.cells = #[v]) (h : ∀ n, DecB P W n t (fun x => [one x]) good w) : ReadsArgB P W t one good w := fun Hh e b v d ps hv hT hw => by
  obtain ⟨fuel, hf⟩ := hT
  obtain ⟨x, h1, h0, h2, h3⟩ := h fuel Hh e _ _ hf hw
  rw [hc b v hv] at h2
  exact ⟨x, h1, h0, h2.2 0 _ v rfl rfl⟩
theorem readsB_slice {e : TypeId} {enc : X → List PV} (ht : P.underlying t = some (.slice e)) (hsz : 0 < P.cellsOf e) (he : ∀ n, DecB P W n e enc good w) : ReadsArgB P W t (fun xs : List X => .vec (xs.map enc) false) (fun xs => xs.length * P.bytesOf e ≤ reachBytes ∧ ∀ x ∈ xs, good x) (fun xs => (xs.map w).sum + 1) :=
  readsB_cell (fun b v hv => by
    simp only [Value.okWide, ht, Cell.okWide, Cell.ok] at hv
    cases v <;> first | rfl | exact hv.elim) fun n => by
      cases n with
      | zero => exact DecB.zero
      | succ n => exact decB_slice ht hsz (he n)
theorem readsB_struct {fs : Array Field} {enc : X → List PV} (ht : P.underlying t = some (.struct fs)) (h : ∀ n, DecB P W n t enc good w) : ReadsArgB P W t (fun x => .agg (enc x)) good w := fun Hh e b v d ps hv hT hw => by
  obtain ⟨cs, rfl, hs, _⟩ : ∃ cs, v = .agg cs ∧ cs.size = P.cellsOf t ∧ Row.okWide P W .any b t cs := by
    simpa [Value.okWide, ht] using hv
  obtain ⟨fuel, hf⟩ := hT
  obtain ⟨x, h1, h0, h2, h3⟩ := h fuel Hh e _ _ hf hw
  simp only [Value.cells] at h2 h3
  exact ⟨x, h1, h0, .agg _ _ _ (by simpa using h2.1) (fun i c v hc hv => h2.2 i c v hc (by simpa using hv)) fun i v hv => h3 v (List.mem_of_getElem? (by simpa using hv))⟩
end
theorem law_callsB {H : Type} {enc : TypeId × Value → H} {P : Program} {Γ : Nat → PV} {f : FuncId} {fn : Func} {s : ChangeSpec} {W : World} {b : Nat} {args : Array Value} {ds gs : List (DataW H)} {before : List MemPlace} {tb : TypeId} {X : Type} {encs : X → List PV} {good : X → Prop} {wt : X → Nat} {k : Nat}
    (hl : laidOutB P = true) (hr : (fn.params.toList.all fun t => P.readableRec t && decide (t < P.types.size)) = true) (hv : s.vars = []) (hres : fn.resultTypes = #[tb]) (htb : P.underlying tb = some .bool)
    (hs : ∀ ds : List (DataW H), ds.length = fn.params.size → s.fn H ds = { results := [.lit (.bool true)], args := ds })
    (hΓ : Sim Γ W (ofW W) [] W) (ha : ReadsArgsB P W fn.params.toList encs good wt) (hg : ∀ x, good x → wt x ≤ k → Gives P Γ f (encs x) (.bool true)) (hk : bulkAll ds ≤ k)
    (hval : ∀ (j : Nat) t v, fn.params[j]? = some t → args[j]? = some v → Value.okWide P W .any b t v) (hW : DataW.Whole enc P fn.params.toList s.vars false W args.toList ds gs before) {us : List TypeId} {gs' : List (DataW H)}
    (hw : (DataW.weightsEach P (fn.params.toList ++ us) (ds ++ gs')).all (· ≤ reachBytes) = true) :
    Calls P f args W fun e W' => ∃ v, e = .returned v ∧ s.post enc P fn false true false false W args v W' := by
  have hW' := hW
  obtain ⟨p, q, hA0, hV, rfl, hfz, hnd⟩ := hW
  have hA : DataW.TrodAll enc P W 0 (fun _ => true) true fn.params.toList args.toList ds p := hA0
  obtain ⟨x, hgx, hwx, hx⟩ := ha H enc b args.toList ds p (fun j t v a c => hval j t v (by simpa using a) (by simpa using c)) hA fun i t d h1 h2 =>
    weightsEach_at (i := i) hw (by rw [List.getElem?_append_left (List.getElem?_eq_some_iff.1 h1).1]; exact h1) (by rw [List.getElem?_append_left (List.getElem?_eq_some_iff.1 h2).1]; exact h2)
  refine (callsIn_wide.1 (hg x hgx (Nat.le_trans hwx hk) [] W (ofW W) W args hΓ hx)).mono fun e W' hq => ?_
  obtain ⟨v, p', H', G', rfl, h1, h2, h3, h4, rfl, rfl⟩ := hq
  have hb : v = .bool true := by cases h2; rfl
  subst hb
  exact ⟨_, rfl, law_post hl hr hv hres htb hs hW' h1.below⟩
theorem awp_heap {P : Program} {Γ : Nat → PV} {N : Nat} {ro : Option Nat} {c : Code} {A : List (Nat × PV)} {H H' : List Blk} {D : List Nat} {Q : Post} (hH : H = H') (h : AWP P Γ N ro c A H' D Q) : AWP P Γ N ro c A H D Q := hH ▸ h
theorem ACalls.lenLe {P : Program} {Γ : Nat → PV} {f : FuncId} {args : List PV} {H : List Blk} {R : PV → List Blk → Prop} (h : ACalls P Γ f args H R) : ACalls P Γ f args H (fun p H' => R p H' ∧ H.length ≤ H'.length) :=
  fun w0 G w vs hs ha => (h w0 G w vs hs ha).mono fun _ _ ⟨v, p, H', G', h1, h2, h3, h4, h5, h6⟩ => ⟨v, p, H', G', h1, h2, h3, h4, h5, h6, h5⟩
theorem os_max {P : Program} {Γ : Nat → PV} {A : List (Nat × PV)} {H : List Blk} {o : Oper} {K : PV → List Blk → Prop} {x y : Operand} {ts : Array TypeId} {k : IntKind} {m n : Int} (ho : o.op = .call { callee := .builtin .max, args := #[x, y], argTypes := ts }) (hx : ev Γ A x = .int k m) (hy : ev Γ A y = .int k n)
    (hk : K (.int k (if m < n then n else m)) H) : OStep P Γ o A H K :=
  ostep_pure (by simp [ho]) _ hk fun w0 G w N a hs ha => by
    have h1 := ha.ev hs.glob x
    have h2 := ha.ev hs.glob y
    rw [hx] at h1
    rw [hy] at h2
    refine ⟨_, ?_, .int _ _ _⟩
    simp [execOp, ho, resolve, invoke, builtin, Builtin.max_, Builtin.max2, h1.int_inv, h2.int_inv]
end Go.Proofs.YtddnigahjahkbaaGreatDoor.Fw
namespace Go.Proofs.YtddnigahjahkbaaGreatDoor.Fw
set_option linter.unusedVariables false
set_option linter.unusedSimpArgs false
set_option maxRecDepth 100000
open Go.RowKit
variable {P : Program} {Γ : Nat → PV} {N : Nat} {ro : Option Nat} {A : List (Nat × PV)} {H : List Blk} {D : List Nat} {Q : Post}
theorem awp_join {S : Type} (keep : List Nat) (st : S → List PV) (Hs : S → List Blk) (ok : S → Prop) {x y : Code}
    (h1 : AWP P Γ N ro x A H D (Post.then (fun A' H' D' => ∃ s, ok s ∧ keep.map (alook A') = st s ∧ H' = Hs s ∧ D' = D) Q))
    (h2 : ∀ s, ok s → AWP P Γ N ro y (keep.zip (st s)) (Hs s) D Q) : AWP P Γ N ro (.seq x y) A H D Q := by
  refine awp_seq (h1.mono fun e A' H' D' hq => ?_)
  cases e with
  | normal =>
    obtain ⟨s, k1, k2, rfl, rfl⟩ := hq
    exact awp_less (fun t => zip_look keep _ t A' k2) (h2 s k1)
  | _ => exact hq
theorem aops_end {ops : Array Oper} {K : List (Nat × PV) → List Blk → Prop} (h : K A H) : AOps P Γ ops K [] A H := h
end Go.Proofs.YtddnigahjahkbaaGreatDoor.Fw
namespace Go.Proofs.YtddnigahjahkbaaGreatDoor.Fw
set_option linter.unusedVariables false
set_option linter.unusedSimpArgs false
set_option maxRecDepth 100000
open Go.RowKit
def AIterM (P : Program) (Γ : Nat → PV) (gf : FuncId) (caps : List PV) (b : Nat) (B0 : Blk) (np : Nat) (xs : List (List PV)) : Prop :=
  ∀ (l n0 : Nat) (Inv : Nat → List Blk → Prop) (Stop : List Blk → Prop),
    (∀ i Hb, Inv i Hb → Hb.length = n0 ∧ (∀ cs, PV.plainL cs = true → Inv i (Hb.set b (.box cs))) ∧ ∃ rec cs, Hb[l]? = some (.loop rec cs) ∧ b ≠ l ∧ rec.params.size = np ∧
      ∀ x E, xs[i]? = some x → ARound P Γ l rec x (Hb ++ E) (fun bb H' => ∃ Hb', H' = Hb' ++ E ∧ Hb'[b]? = Hb[b]? ∧ if bb = true then Inv (i + 1) Hb' else (Hb'.length = n0 ∧ Stop Hb'))) →
    ∀ Hb, Inv 0 Hb → Hb[b]? = some B0 → ACalls P Γ gf (.yld l :: caps) Hb (fun _ H' => Inv xs.length H' ∨ (H'.length = n0 ∧ Stop H'))
section
variable {P : Program} {Γ : Nat → PV} {N : Nat} {ro : Option Nat} {A : List (Nat × PV)} {H : List Blk} {D : List Nat} {Q : Post} {o : Oper} {K : PV → List Blk → Prop}
end
end Go.Proofs.YtddnigahjahkbaaGreatDoor.Fw
namespace Go.Proofs.YtddnigahjahkbaaGreatDoor.Fw
set_option linter.unusedVariables false
set_option linter.unusedSimpArgs false
set_option maxRecDepth 100000
open Go.RowKit
theorem gfw :
    (∀ (X Y : Type) (f : X → Y) (l : List X), (l.map f).length = l.length) ∧
    (∀ (X Y : Type) (f : X → Y) (l : List X) (i : Nat), (l.map f)[i]? = (l[i]?).map f) ∧
    (∀ (X Y : Type) (f : X → Y) (x : X), Option.map f (some x) = some (f x)) ∧
    (∀ (X Y : Type) (f : X → Y) (x : X) (l : List X), List.map f (x :: l) = f x :: l.map f) ∧
    (∀ (X Y : Type) (f : X → Y), List.map f [] = []) ∧
    (∀ n : Nat, ((0 : Int) ≤ (n : Int)) = True) ∧
    (∀ n : Nat, ((n : Int) < 0) = False) ∧
    (∀ n : Nat, (n : Int).toNat = n) ∧
    (∀ d : Decidable True, @decide True d = true) ∧
    (∀ d : Decidable False, @decide False d = false) ∧
    (∀ b : Bool, (b && true) = b) ∧
    (∀ b : Bool, (b && false) = false) ∧
    (∀ b : Bool, (true && b) = b) ∧
    (∀ b : Bool, (false && b) = false) ∧
    (∀ b : Bool, (b && b) = b) ∧
    (∀ b : Bool, (b || false) = b) ∧
    (∀ b : Bool, (false || b) = b) ∧
    (∀ b : Bool, (b || true) = true) ∧
    (∀ b : Bool, (true || b) = true) ∧
    ((!true) = false) ∧
    ((!false) = true) ∧
    (∀ b : Bool, (!!b) = b) ∧
    (∀ b : Bool, (b == b) = true) ∧
    (∀ (X : Type) (a b : X), (a ≠ b) = ¬ (a = b)) ∧
    (∀ (X : Type) (a : X), (a = a) = True) ∧
    ((¬ False) = True) ∧
    ((¬ True) = False) ∧
    (∀ p : Prop, (p ∧ p) = p) ∧
    (∀ p : Prop, (p ∧ True) = p) ∧
    (∀ p : Prop, (True ∧ p) = p) ∧
    (∀ p : Prop, (p ∧ False) = False) ∧
    (∀ p : Prop, (False ∧ p) = False) := by
  refine ⟨?_, ?_, ?_, ?_, ?_, ?_, ?_, ?_, ?_, ?_, ?_, ?_, ?_, ?_, ?_, ?_, ?_, ?_, ?_, ?_, ?_, ?_, ?_, ?_, ?_, ?_, ?_, ?_, ?_, ?_, ?_, ?_⟩ <;> intros <;> simp
end Go.Proofs.YtddnigahjahkbaaGreatDoor.Fw
namespace Go.Proofs.YtddnigahjahkbaaGreatDoor.Fw
set_option linter.unusedVariables false
set_option linter.unusedSimpArgs false
set_option maxRecDepth 100000
open Go.RowKit
def PV.flat : PV → Bool
  | .bool _ | .int _ _ | .str _ => true
  | _ => false
theorem Rep.flat {G G' : Ghost} {n m : Nat} {p : PV} {v : Value} (h : Rep G n p v) (hp : p.flat = true) : Rep G' m p v := by
  cases h with
  | bool => exact .bool _ _
  | int => exact .int _ _ _
  | str _ _ hn => exact .str _ _ hn
  | _ => cases hp
section
variable {P : Program} {Γ : Nat → PV} {H : List Blk}
def lent (H : List Blk) : PV → PV → Prop
  | .row b o k sz, q => ∃ C, H[b]? = some (.row sz C) ∧ PV.plainL C = true ∧ C.length = o + k * sz ∧ q = .vec (chunk sz k (C.drop o)) false
  | p, q => p.plain = true ∧ q = p
end
end Go.Proofs.YtddnigahjahkbaaGreatDoor.Fw
namespace Go.Proofs.YtddnigahjahkbaaGreatDoor
set_option linter.unusedVariables false
set_option linter.unusedSimpArgs false
set_option maxRecDepth 100000
open Go.RowKit Fw
theorem flatten_enc {X : Type} (enc : X → List PV) (l : List X) (i : Nat) (x : X) (h : l[i]? = some x) : ((l.take (i + 1)).map enc).flatten = ((l.take i).map enc).flatten ++ enc x := by
  rw [List.take_add_one, h]; simp
theorem flat_len {X : Type} {enc : X → List PV} {sz : Nat} (h : ∀ x, (enc x).length = sz) (l : List X) : ((l.map enc).flatten).length = l.length * sz := by
  rw [flatten_len (sz := sz) (fun e he => by obtain ⟨x, _, rfl⟩ := List.mem_map.1 he; exact h x), List.length_map]
theorem flat_chunk {X : Type} {enc : X → List PV} {sz : Nat} (h : ∀ x, (enc x).length = sz) (l : List X) : chunk sz l.length ((l.map enc).flatten) = l.map enc := by
  have := chunk_flatten (sz := sz) (es := l.map enc) (fun e he => by obtain ⟨x, _, rfl⟩ := List.mem_map.1 he; exact h x)
  rwa [List.length_map] at this
theorem flat_bd {X : Type} {enc : X → List PV} {m : Nat} (h : ∀ x, PV.bdL m (enc x) = true) (l : List X) : PV.bdL m ((l.map enc).flatten) = true := by
  induction l with
  | nil => rfl
  | cons x l ih => rw [List.map_cons, List.flatten_cons, PV.bdL_append, h, ih]; rfl
def I64 (n : Int) : Prop := -9223372036854775808 ≤ n ∧ n ≤ 9223372036854775807
theorem wrapId {a : Int} (h : I64 a) : IntKind.i64.wrap a = a := by
  obtain ⟨h1, h2⟩ := h
  unfold IntKind.wrap
  have hb : IntKind.i64.bits = 64 := rfl
  have hsg : IntKind.i64.signed = true := rfl
  simp only [hb, hsg, Bool.true_and, decide_eq_true_eq]
  split <;> omega
theorem wrapS (n : Nat) (h : n + 1 < 9223372036854775808) : IntKind.i64.wrap ((n : Int) + 1) = ((n + 1 : Nat) : Int) := by
  rw [wrapId ⟨by omega, by omega⟩]; omega
inductive Tm where
  | mk (kind : Int) (name : List UInt8) (n : Int) (kids : List Tm)
namespace Tm
def kind : Tm → Int | mk x _ _ _ => x
def name : Tm → List UInt8 | mk _ x _ _ => x
def n : Tm → Int | mk _ _ x _ => x
def kids : Tm → List Tm | mk _ _ _ x => x
mutual
def enc : Tm → List PV
  | mk kind name n ks => [.int .i64 kind, .str name, .int .i64 n, .vec (encs ks) false]
def encs : List Tm → List (List PV)
  | [] => []
  | t :: ts => enc t :: encs ts
end
theorem encs_map (l : List Tm) : encs l = l.map enc := by
  induction l with
  | nil => rfl
  | cons t l ih => rw [encs, ih]; rfl
theorem enc_eq (t : Tm) : t.enc = [.int .i64 t.kind, .str t.name, .int .i64 t.n, .vec (t.kids.map enc) false] := by
  cases t; rw [enc, encs_map]; rfl
theorem kids_lt {t k : Tm} (h : k ∈ t.kids) : SizeOf.sizeOf k < SizeOf.sizeOf t := by
  cases t
  have := List.sizeOf_lt_of_mem h
  simp only [kids, mk.sizeOf_spec] at this ⊢
  omega
theorem ext {a b : Tm} (h0 : a.kind = b.kind) (h1 : a.name = b.name) (h2 : a.n = b.n) (hk : a.kids = b.kids) : a = b := by
  cases a; cases b; simp_all [kind, name, n, kids]
theorem fw : (∀ t : Tm, t.enc.length = 4) ∧
    (∀ t : Tm, t.enc[0]? = some (.int .i64 t.kind)) ∧
    (∀ t : Tm, t.enc[1]? = some (.str t.name)) ∧
    (∀ t : Tm, t.enc[2]? = some (.int .i64 t.n)) ∧
    (∀ t : Tm, t.enc[3]? = some (.vec (t.kids.map enc) false)) ∧
    (∀ t : Tm, t.enc.drop 1 = [.str t.name, .int .i64 t.n, .vec (t.kids.map enc) false]) ∧
    (∀ t : Tm, t.enc.drop 2 = [.int .i64 t.n, .vec (t.kids.map enc) false]) ∧
    (∀ t : Tm, t.enc.drop 3 = [.vec (t.kids.map enc) false]) ∧
    (∀ t : Tm, t.enc.take 4 = t.enc) ∧
    (∀ (t : Tm) (l : List PV), (t.enc ++ l).take 4 = t.enc) ∧
    (∀ (m : Nat) (t : Tm), PV.bdL m t.enc = true) ∧
    (∀ (t : Tm) (l : List PV) (k : Nat), (t.enc ++ l).drop (k + 4) = l.drop k) ∧
    (∀ (t : Tm) (l : List PV) (k : Nat), (t.enc ++ l).take (k + 4) = t.enc ++ l.take k) := by
  refine ⟨?_, ?_, ?_, ?_, ?_, ?_, ?_, ?_, ?_, ?_, ?_, ?_, ?_⟩
  · intro t; rw [enc_eq]; rfl
  · intro t; rw [enc_eq]; rfl
  · intro t; rw [enc_eq]; rfl
  · intro t; rw [enc_eq]; rfl
  · intro t; rw [enc_eq]; rfl
  · intro t; rw [enc_eq]; rfl
  · intro t; rw [enc_eq]; rfl
  · intro t; rw [enc_eq]; rfl
  · intro t; rw [enc_eq]; rfl
  · intro t l; rw [enc_eq]; rfl
  · intro m t; rw [enc_eq]; rfl
  · intro t l k; rw [enc_eq]; rfl
  · intro t l k; rw [enc_eq]; rfl
theorem enc_len (t : Tm) : t.enc.length = 4 := by rw [enc_eq]; rfl
theorem bd (m : Nat) (t : Tm) : PV.bdL m t.enc = true := by rw [enc_eq]; rfl
theorem bdM {m : Nat} (l : List Tm) : PV.bdL m ((l.map enc).flatten) = true := flat_bd (fun t => bd m t) l
inductive Ok : Tm → Prop
  | mk (t : Tm) (h2 : t.kids.length * 56 ≤ reachBytes) (h3 : ∀ k ∈ t.kids, Ok k) : Ok t
mutual
def w : Tm → Nat
  | mk _ _ _ ks => ws ks + 1
def ws : List Tm → Nat
  | [] => 0
  | t :: ts => w t + ws ts
end
theorem ws_sum : ∀ l : List Tm, ws l = (l.map w).sum
  | [] => rfl
  | b :: l => by simp only [ws, List.map_cons, List.sum_cons, ws_sum l]
theorem w_eq (t : Tm) : t.w = (t.kids.map w).sum + 1 := by cases t; simp only [w, ws_sum, kids]
end Tm
noncomputable instance : DecidableEq Tm := fun _ _ => Classical.propDecidable _
def S1 (s : List UInt8) : List PV := [.str s]
theorem S1_len (n : List UInt8) : (S1 n).length = 1 := rfl
theorem S1_fw : (∀ n, (S1 n).length = 1) ∧ (∀ n, (S1 n)[0]? = some (.str n)) ∧ (∀ (m : Nat) n, PV.bdL m (S1 n) = true) := ⟨fun _ => rfl, fun _ => rfl, fun _ _ => rfl⟩
structure Tk where
  kind : Int
  text : List UInt8
  n : Int
deriving DecidableEq, Inhabited
namespace Tk
def enc (t : Tk) : List PV := [.int .i64 t.kind, .str t.text, .int .i64 t.n]
theorem enc_len (t : Tk) : t.enc.length = 3 := rfl
theorem fw : (∀ t : Tk, t.enc.length = 3) ∧ (∀ t : Tk, t.enc[0]? = some (.int .i64 t.kind)) ∧ (∀ t : Tk, t.enc[1]? = some (.str t.text)) ∧ (∀ t : Tk, t.enc[2]? = some (.int .i64 t.n)) ∧ (∀ t : Tk, t.enc.drop 1 = [.str t.text, .int .i64 t.n]) ∧ (∀ t : Tk, t.enc.drop 2 = [.int .i64 t.n]) ∧ (∀ t : Tk, t.enc.take 3 = t.enc) ∧ (∀ (m : Nat) (t : Tk), PV.bdL m t.enc = true) :=
  ⟨fun _ => rfl, fun _ => rfl, fun _ => rfl, fun _ => rfl, fun _ => rfl, fun _ => rfl, fun _ => rfl, fun _ _ => rfl⟩
end Tk
def I1 (n : Int) : List PV := [.int .i64 n]
theorem I1_fw : (∀ n, (I1 n).length = 1) ∧ (∀ n, (I1 n)[0]? = some (.int .i64 n)) ∧ (∀ (m : Nat) n, PV.bdL m (I1 n) = true) := ⟨fun _ => rfl, fun _ => rfl, fun _ _ => rfl⟩
def B8 (n : Int) : List PV := [.int .u8 n]
theorem B8_fw : (∀ n, (B8 n).length = 1) ∧ (∀ n, (B8 n)[0]? = some (.int .u8 n)) ∧ (∀ (m : Nat) n, PV.bdL m (B8 n) = true) := ⟨fun _ => rfl, fun _ => rfl, fun _ _ => rfl⟩
end Go.Proofs.YtddnigahjahkbaaGreatDoor
namespace Go.Proofs.YtddnigahjahkbaaGreatDoor
set_option linter.unusedVariables false
set_option linter.unusedSimpArgs false
set_option maxRecDepth 100000
open Go.RowKit Fw
theorem en2 : Enters Tryz.prog 2 := enters_of Tryz.func2 rfl rfl
theorem en5 : Enters Tryz.prog 5 := enters_of Tryz.func5 rfl rfl
theorem en6 : Enters Tryz.prog 6 := enters_of Tryz.func6 rfl rfl
theorem en7 : Enters Tryz.prog 7 := enters_of Tryz.func7 rfl rfl
theorem en8 : Enters Tryz.prog 8 := enters_of Tryz.func8 rfl rfl
theorem en9 : Enters Tryz.prog 9 := enters_of Tryz.func9 rfl rfl
theorem en10 : Enters Tryz.prog 10 := enters_of Tryz.func10 rfl rfl
theorem en11 : Enters Tryz.prog 11 := enters_of Tryz.func11 rfl rfl
theorem en12 : Enters Tryz.prog 12 := enters_of Tryz.func12 rfl rfl
theorem en13 : Enters Tryz.prog 13 := enters_of Tryz.func13 rfl rfl
theorem en14 : Enters Tryz.prog 14 := enters_of Tryz.func14 rfl rfl
theorem en15 : Enters Tryz.prog 15 := enters_of Tryz.func15 rfl rfl
theorem en16 : Enters Tryz.prog 16 := enters_of Tryz.func16 rfl rfl
theorem en17 : Enters Tryz.prog 17 := enters_of Tryz.func17 rfl rfl
theorem en18 : Enters Tryz.prog 18 := enters_of Tryz.func18 rfl rfl
theorem en19 : Enters Tryz.prog 19 := enters_of Tryz.func19 rfl rfl
theorem en20 : Enters Tryz.prog 20 := enters_of Tryz.func20 rfl rfl
theorem en21 : Enters Tryz.prog 21 := enters_of Tryz.func21 rfl rfl
theorem en22 : Enters Tryz.prog 22 := enters_of Tryz.func22 rfl rfl
theorem en23 : Enters Tryz.prog 23 := enters_of Tryz.func23 rfl rfl
theorem en24 : Enters Tryz.prog 24 := enters_of Tryz.func24 rfl rfl
theorem en25 : Enters Tryz.prog 25 := enters_of Tryz.func25 rfl rfl
theorem en26 : Enters Tryz.prog 26 := enters_of Tryz.func26 rfl rfl
theorem en27 : Enters Tryz.prog 27 := enters_of Tryz.func27 rfl rfl
theorem en28 : Enters Tryz.prog 28 := enters_of Tryz.func28 rfl rfl
theorem en29 : Enters Tryz.prog 29 := enters_of Tryz.func29 rfl rfl
theorem en30 : Enters Tryz.prog 30 := enters_of Tryz.func30 rfl rfl
theorem en31 : Enters Tryz.prog 31 := enters_of Tryz.func31 rfl rfl
theorem en32 : Enters Tryz.prog 32 := enters_of Tryz.func32 rfl rfl
theorem en33 : Enters Tryz.prog 33 := enters_of Tryz.func33 rfl rfl
theorem en34 : Enters Tryz.prog 34 := enters_of Tryz.func34 rfl rfl
theorem en35 : Enters Tryz.prog 35 := enters_of Tryz.func35 rfl rfl
theorem en36 : Enters Tryz.prog 36 := enters_of Tryz.func36 rfl rfl
theorem en37 : Enters Tryz.prog 37 := enters_of Tryz.func37 rfl rfl
theorem en38 : Enters Tryz.prog 38 := enters_of Tryz.func38 rfl rfl
theorem en39 : Enters Tryz.prog 39 := enters_of Tryz.func39 rfl rfl
theorem en40 : Enters Tryz.prog 40 := enters_of Tryz.func40 rfl rfl
theorem en41 : Enters Tryz.prog 41 := enters_of Tryz.func41 rfl rfl
theorem en42 : Enters Tryz.prog 42 := enters_of Tryz.func42 rfl rfl
theorem en43 : Enters Tryz.prog 43 := enters_of Tryz.func43 rfl rfl
theorem en44 : Enters Tryz.prog 44 := enters_of Tryz.func44 rfl rfl
theorem en45 : Enters Tryz.prog 45 := enters_of Tryz.func45 rfl rfl
theorem en46 : Enters Tryz.prog 46 := enters_of Tryz.func46 rfl rfl
theorem en47 : Enters Tryz.prog 47 := enters_of Tryz.func47 rfl rfl
theorem en48 : Enters Tryz.prog 48 := enters_of Tryz.func48 rfl rfl
theorem en49 : Enters Tryz.prog 49 := enters_of Tryz.func49 rfl rfl
theorem en50 : Enters Tryz.prog 50 := enters_of Tryz.func50 rfl rfl
theorem en51 : Enters Tryz.prog 51 := enters_of Tryz.func51 rfl rfl
theorem en55 : Enters Tryz.prog 55 := enters_of Tryz.func55 rfl rfl
theorem en56 : Enters Tryz.prog 56 := enters_of Tryz.func56 rfl rfl
theorem en57 : Enters Tryz.prog 57 := enters_of Tryz.func57 rfl rfl
theorem en58 : Enters Tryz.prog 58 := enters_of Tryz.func58 rfl rfl
theorem en60 : Enters Tryz.prog 60 := enters_of Tryz.func60 rfl rfl
theorem en61 : Enters Tryz.prog 61 := enters_of Tryz.func61 rfl rfl
theorem en65 : Enters Tryz.prog 65 := enters_of Tryz.func65 rfl rfl
theorem en66 : Enters Tryz.prog 66 := enters_of Tryz.func66 rfl rfl
theorem en70 : Enters Tryz.prog 70 := enters_of Tryz.func70 rfl rfl
theorem en71 : Enters Tryz.prog 71 := enters_of Tryz.func71 rfl rfl
theorem en72 : Enters Tryz.prog 72 := enters_of Tryz.func72 rfl rfl
theorem en73 : Enters Tryz.prog 73 := enters_of Tryz.func73 rfl rfl
theorem en78 : Enters Tryz.prog 78 := enters_of Tryz.func78 rfl rfl
theorem en79 : Enters Tryz.prog 79 := enters_of Tryz.func79 rfl rfl
theorem en80 : Enters Tryz.prog 80 := enters_of Tryz.func80 rfl rfl
theorem en81 : Enters Tryz.prog 81 := enters_of Tryz.func81 rfl rfl
theorem en97 : Enters Tryz.prog 97 := enters_of Tryz.func97 rfl rfl
theorem en102 : Enters Tryz.prog 102 := enters_of Tryz.func102 rfl rfl
theorem en103 : Enters Tryz.prog 103 := enters_of Tryz.func103 rfl rfl
theorem ar81 : arOf Tryz.prog 81 = some (14, 1) := by kernel_rfl
theorem ar112 : arOf Tryz.prog 112 = some (13, 1) := by kernel_rfl
theorem ar115 : arOf Tryz.prog 115 = some (24, 1) := by kernel_rfl
theorem ar135 : arOf Tryz.prog 135 = some (20, 1) := by kernel_rfl
theorem ar136 : arOf Tryz.prog 136 = some (65, 1) := by kernel_rfl
theorem ar161 : arOf Tryz.prog 161 = some (32, 1) := by kernel_rfl
theorem ar162 : arOf Tryz.prog 162 = some (64, 1) := by kernel_rfl
theorem el22 : elOf Tryz.prog 22 = some (4, 56) := by kernel_rfl
theorem el25 : elOf Tryz.prog 25 = some (1, 1) := by kernel_rfl
theorem el28 : elOf Tryz.prog 28 = some (3, 32) := by kernel_rfl
theorem el30 : elOf Tryz.prog 30 = some (3, 32) := by kernel_rfl
theorem el33 : elOf Tryz.prog 33 = some (4, 56) := by kernel_rfl
theorem el43 : elOf Tryz.prog 43 = some (1, 16) := by kernel_rfl
theorem el65 : elOf Tryz.prog 65 = some (1, 8) := by kernel_rfl
theorem el75 : elOf Tryz.prog 75 = some (1, 24) := by kernel_rfl
theorem el81 : elOf Tryz.prog 81 = none := by kernel_rfl
theorem el90 : elOf Tryz.prog 90 = some (1, 16) := by kernel_rfl
theorem el112 : elOf Tryz.prog 112 = none := by kernel_rfl
theorem el115 : elOf Tryz.prog 115 = none := by kernel_rfl
theorem el135 : elOf Tryz.prog 135 = none := by kernel_rfl
theorem el136 : elOf Tryz.prog 136 = none := by kernel_rfl
theorem el161 : elOf Tryz.prog 161 = none := by kernel_rfl
theorem el162 : elOf Tryz.prog 162 = none := by kernel_rfl
theorem eq40 : eqOf Tryz.prog 40 = some [(0, 0), (1, 1), (2, 0)] := by kernel_rfl
theorem eq45 : eqOf Tryz.prog 45 = some [(0, 0), (1, 1), (2, 0)] := by kernel_rfl
theorem fl24_0 : fldOf Tryz.prog 24 0 = some (0, 1, false) := by kernel_rfl
theorem fl24_1 : fldOf Tryz.prog 24 1 = some (1, 1, false) := by kernel_rfl
theorem fl24_2 : fldOf Tryz.prog 24 2 = some (2, 1, false) := by kernel_rfl
theorem fl24_3 : fldOf Tryz.prog 24 3 = some (3, 1, false) := by kernel_rfl
theorem fl35_0 : fldOf Tryz.prog 35 0 = some (0, 1, false) := by kernel_rfl
theorem fl35_1 : fldOf Tryz.prog 35 1 = some (1, 1, false) := by kernel_rfl
theorem fl35_2 : fldOf Tryz.prog 35 2 = some (2, 1, false) := by kernel_rfl
theorem fl35_3 : fldOf Tryz.prog 35 3 = some (3, 1, false) := by kernel_rfl
theorem fl40_1 : fldOf Tryz.prog 40 1 = some (1, 1, false) := by kernel_rfl
theorem fl45_0 : fldOf Tryz.prog 45 0 = some (0, 1, false) := by kernel_rfl
theorem fl45_1 : fldOf Tryz.prog 45 1 = some (1, 1, false) := by kernel_rfl
theorem fl45_2 : fldOf Tryz.prog 45 2 = some (2, 1, false) := by kernel_rfl
theorem fl49_0 : fldOf Tryz.prog 49 0 = some (0, 1, false) := by kernel_rfl
theorem fl49_1 : fldOf Tryz.prog 49 1 = some (1, 1, false) := by kernel_rfl
theorem fl67_0 : fldOf Tryz.prog 67 0 = some (0, 4, true) := by kernel_rfl
theorem fl95_0 : fldOf Tryz.prog 95 0 = some (0, 1, false) := by kernel_rfl
theorem fl95_1 : fldOf Tryz.prog 95 1 = some (1, 1, false) := by kernel_rfl
theorem pl24 : plOf Tryz.prog 24 = some [(0, 1), (1, 1), (2, 1), (3, 1)] := by kernel_rfl
theorem pl35 : plOf Tryz.prog 35 = some [(0, 1), (1, 1), (2, 1), (3, 1)] := by kernel_rfl
theorem pl40 : plOf Tryz.prog 40 = some [(0, 1), (1, 1), (2, 1)] := by kernel_rfl
theorem pl45 : plOf Tryz.prog 45 = some [(0, 1), (1, 1), (2, 1)] := by kernel_rfl
theorem pl49 : plOf Tryz.prog 49 = some [(0, 1), (1, 1)] := by kernel_rfl
theorem pl67 : plOf Tryz.prog 67 = some [(0, 4)] := by kernel_rfl
theorem pl159 : plOf Tryz.prog 159 = some [(0, 1), (1, 1), (2, 1)] := by kernel_rfl
theorem pl165 : plOf Tryz.prog 165 = some [(0, 1)] := by kernel_rfl
theorem ti2 : tiOf Tryz.prog 2 = some ⟨1, 8, false, [.int .i64 0]⟩ := by kernel_rfl
theorem ti3 : tiOf Tryz.prog 3 = some ⟨1, 8, false, [.int .i64 0]⟩ := by kernel_rfl
theorem ti5 : tiOf Tryz.prog 5 = some ⟨1, 1, false, [.int .u8 0]⟩ := by kernel_rfl
theorem ti9 : tiOf Tryz.prog 9 = some ⟨1, 16, false, [.str []]⟩ := by kernel_rfl
theorem ti22 : tiOf Tryz.prog 22 = some ⟨1, 24, false, [.vec [] true]⟩ := by kernel_rfl
theorem ti24 : tiOf Tryz.prog 24 = some ⟨4, 56, true, [.int .i64 0, .str [], .int .i64 0, .vec [] true]⟩ := by kernel_rfl
theorem ti25 : tiOf Tryz.prog 25 = some ⟨1, 24, false, [.vec [] true]⟩ := by kernel_rfl
theorem ti28 : tiOf Tryz.prog 28 = some ⟨1, 24, false, [.vec [] true]⟩ := by kernel_rfl
theorem ti33 : tiOf Tryz.prog 33 = some ⟨1, 24, false, [.vec [] true]⟩ := by kernel_rfl
theorem ti35 : tiOf Tryz.prog 35 = some ⟨4, 56, true, [.int .i64 0, .str [], .int .i64 0, .vec [] true]⟩ := by kernel_rfl
theorem ti40 : tiOf Tryz.prog 40 = some ⟨3, 32, true, [.int .i64 0, .str [], .int .i64 0]⟩ := by kernel_rfl
theorem ti42 : tiOf Tryz.prog 42 = some ⟨1, 8, false, [.nilf]⟩ := by kernel_rfl
theorem ti43 : tiOf Tryz.prog 43 = some ⟨1, 24, false, [.vec [] true]⟩ := by kernel_rfl
theorem ti45 : tiOf Tryz.prog 45 = some ⟨3, 32, true, [.int .i64 0, .str [], .int .i64 0]⟩ := by kernel_rfl
theorem ti49 : tiOf Tryz.prog 49 = some ⟨2, 32, true, [.vec [] true, .int .i64 0]⟩ := by kernel_rfl
theorem ti56 : tiOf Tryz.prog 56 = some ⟨1, 8, false, [.nilm]⟩ := by kernel_rfl
theorem ti57 : tiOf Tryz.prog 57 = some ⟨1, 8, false, [.nilf]⟩ := by kernel_rfl
theorem ti67 : tiOf Tryz.prog 67 = some ⟨4, 56, true, [.int .i64 0, .str [], .int .i64 0, .vec [] true]⟩ := by kernel_rfl
theorem ti92 : tiOf Tryz.prog 92 = some ⟨1, 16, false, [.nili]⟩ := by kernel_rfl
theorem ti93 : tiOf Tryz.prog 93 = some ⟨1, 8, false, [.nilp]⟩ := by kernel_rfl
theorem ti95 : tiOf Tryz.prog 95 = some ⟨2, 32, true, [.nilp, .vec [] true]⟩ := by kernel_rfl
theorem ti98 : tiOf Tryz.prog 98 = some ⟨1, 16, false, [.nili]⟩ := by kernel_rfl
theorem ti115 : tiOf Tryz.prog 115 = some ⟨24, 24, true, [.int .u8 0, .int .u8 0, .int .u8 0, .int .u8 0, .int .u8 0, .int .u8 0, .int .u8 0, .int .u8 0, .int .u8 0, .int .u8 0, .int .u8 0, .int .u8 0, .int .u8 0, .int .u8 0, .int .u8 0, .int .u8 0, .int .u8 0, .int .u8 0, .int .u8 0, .int .u8 0, .int .u8 0, .int .u8 0, .int .u8 0, .int .u8 0]⟩ := by kernel_rfl
theorem ti116 : tiOf Tryz.prog 116 = some ⟨1, 8, false, [.int .u64 0]⟩ := by kernel_rfl
theorem ti136 : tiOf Tryz.prog 136 = some ⟨65, 65, true, [.int .u8 0, .int .u8 0, .int .u8 0, .int .u8 0, .int .u8 0, .int .u8 0, .int .u8 0, .int .u8 0, .int .u8 0, .int .u8 0, .int .u8 0, .int .u8 0, .int .u8 0, .int .u8 0, .int .u8 0, .int .u8 0, .int .u8 0, .int .u8 0, .int .u8 0, .int .u8 0, .int .u8 0, .int .u8 0, .int .u8 0, .int .u8 0, .int .u8 0, .int .u8 0, .int .u8 0, .int .u8 0, .int .u8 0, .int .u8 0, .int .u8 0, .int .u8 0, .int .u8 0, .int .u8 0, .int .u8 0, .int .u8 0, .int .u8 0, .int .u8 0, .int .u8 0, .int .u8 0, .int .u8 0, .int .u8 0, .int .u8 0, .int .u8 0, .int .u8 0, .int .u8 0, .int .u8 0, .int .u8 0, .int .u8 0, .int .u8 0, .int .u8 0, .int .u8 0, .int .u8 0, .int .u8 0, .int .u8 0, .int .u8 0, .int .u8 0, .int .u8 0, .int .u8 0, .int .u8 0, .int .u8 0, .int .u8 0, .int .u8 0, .int .u8 0, .int .u8 0]⟩ := by kernel_rfl
theorem ti141 : tiOf Tryz.prog 141 = some ⟨1, 8, false, [.int .u64 0]⟩ := by kernel_rfl
theorem ti159 : tiOf Tryz.prog 159 = some ⟨3, 48, true, [.str [], .str [], .nili]⟩ := by kernel_rfl
theorem ti165 : tiOf Tryz.prog 165 = some ⟨1, 16, true, [.str []]⟩ := by kernel_rfl
theorem un2 : Tryz.prog.underlying 2 = some (.int .i64) := by kernel_rfl
theorem un3 : Tryz.prog.underlying 3 = some (.int .i64) := by kernel_rfl
theorem un4 : Tryz.prog.underlying 4 = some .bool := by kernel_rfl
theorem un5 : Tryz.prog.underlying 5 = some (.int .u8) := by kernel_rfl
theorem un9 : Tryz.prog.underlying 9 = some .string := by kernel_rfl
theorem un22 : Tryz.prog.underlying 22 = some (.slice 24) := by kernel_rfl
theorem un25 : Tryz.prog.underlying 25 = some (.slice 5) := by kernel_rfl
theorem un28 : Tryz.prog.underlying 28 = some (.slice 40) := by kernel_rfl
theorem un30 : Tryz.prog.underlying 30 = some (.slice 45) := by kernel_rfl
theorem un33 : Tryz.prog.underlying 33 = some (.slice 35) := by kernel_rfl
theorem un43 : Tryz.prog.underlying 43 = some (.slice 9) := by kernel_rfl
theorem un56 : Tryz.prog.underlying 56 = some (.map 9 3) := by kernel_rfl
theorem un65 : Tryz.prog.underlying 65 = some (.slice 3) := by kernel_rfl
theorem un69 : Tryz.prog.underlying 69 = some .string := by kernel_rfl
theorem un72 : Tryz.prog.underlying 72 = some .string := by kernel_rfl
theorem un73 : Tryz.prog.underlying 73 = some .string := by kernel_rfl
theorem un75 : Tryz.prog.underlying 75 = some (.slice 28) := by kernel_rfl
theorem un90 : Tryz.prog.underlying 90 = some (.slice 92) := by kernel_rfl
theorem un93 : Tryz.prog.underlying 93 = some (.pointer 95) := by kernel_rfl
theorem un108 : Tryz.prog.underlying 108 = some (.int .u64) := by kernel_rfl
theorem un116 : Tryz.prog.underlying 116 = some (.int .u64) := by kernel_rfl
theorem un132 : Tryz.prog.underlying 132 = some (.int .u32) := by kernel_rfl
theorem un141 : Tryz.prog.underlying 141 = some (.int .u64) := by kernel_rfl
theorem un147 : Tryz.prog.underlying 147 = some (.int .i64) := by kernel_rfl
theorem un150 : Tryz.prog.underlying 150 = some (.pointer 159) := by kernel_rfl
theorem un163 : Tryz.prog.underlying 163 = some (.pointer 165) := by kernel_rfl
theorem mixed : Tryz.prog.follows .mixedOrders = true := by kernel_rfl
theorem ti69 : tiOf Tryz.prog 69 = some ⟨1, 16, false, [.str []]⟩ := by kernel_rfl
theorem ti72 : tiOf Tryz.prog 72 = some ⟨1, 16, false, [.str []]⟩ := by kernel_rfl
theorem ti73 : tiOf Tryz.prog 73 = some ⟨1, 16, false, [.str []]⟩ := by kernel_rfl
end Go.Proofs.YtddnigahjahkbaaGreatDoor
namespace Go.Proofs.YtddnigahjahkbaaGreatDoor
set_option linter.unusedVariables false
set_option linter.unusedSimpArgs false
set_option maxRecDepth 100000
open Go.RowKit Fw
theorem take_snoc {X : Type} {l : List X} {i : Nat} {x : X} (h : l[i]? = some x) : l.take (i + 1) = l.take i ++ [x] := by rw [List.take_add_one, h]; rfl
theorem bx : (arOf Tryz.prog 81 = some (14, 1)) ∧ (arOf Tryz.prog 112 = some (13, 1)) ∧ (arOf Tryz.prog 115 = some (24, 1)) ∧ (arOf Tryz.prog 135 = some (20, 1)) ∧ (arOf Tryz.prog 136 = some (65, 1)) ∧ (arOf Tryz.prog 161 = some (32, 1)) ∧ (arOf Tryz.prog 162 = some (64, 1)) ∧ (elOf Tryz.prog 22 = some (4, 56)) ∧ (elOf Tryz.prog 25 = some (1, 1)) ∧ (elOf Tryz.prog 28 = some (3, 32)) ∧ (elOf Tryz.prog 30 = some (3, 32)) ∧ (elOf Tryz.prog 33 = some (4, 56)) ∧ (elOf Tryz.prog 43 = some (1, 16)) ∧ (elOf Tryz.prog 65 = some (1, 8)) ∧ (elOf Tryz.prog 75 = some (1, 24)) ∧ (elOf Tryz.prog 81 = none) ∧ (elOf Tryz.prog 90 = some (1, 16)) ∧ (elOf Tryz.prog 112 = none) ∧ (elOf Tryz.prog 115 = none) ∧ (elOf Tryz.prog 135 = none) ∧ (elOf Tryz.prog 136 = none) ∧ (elOf Tryz.prog 161 = none) ∧ (elOf Tryz.prog 162 = none) ∧ (eqOf Tryz.prog 40 = some [(0, 0), (1, 1), (2, 0)]) ∧ (eqOf Tryz.prog 45 = some [(0, 0), (1, 1), (2, 0)]) ∧ (fldOf Tryz.prog 24 0 = some (0, 1, false)) ∧ (fldOf Tryz.prog 24 1 = some (1, 1, false)) ∧ (fldOf Tryz.prog 24 2 = some (2, 1, false)) ∧ (fldOf Tryz.prog 24 3 = some (3, 1, false)) ∧ (fldOf Tryz.prog 35 0 = some (0, 1, false)) ∧ (fldOf Tryz.prog 35 1 = some (1, 1, false)) ∧ (fldOf Tryz.prog 35 2 = some (2, 1, false)) ∧ (fldOf Tryz.prog 35 3 = some (3, 1, false)) ∧ (fldOf Tryz.prog 40 1 = some (1, 1, false)) ∧ (fldOf Tryz.prog 45 0 = some (0, 1, false)) ∧ (fldOf Tryz.prog 45 1 = some (1, 1, false)) ∧ (fldOf Tryz.prog 45 2 = some (2, 1, false)) ∧ (fldOf Tryz.prog 49 0 = some (0, 1, false)) ∧ (fldOf Tryz.prog 49 1 = some (1, 1, false)) ∧ (fldOf Tryz.prog 67 0 = some (0, 4, true)) ∧ (fldOf Tryz.prog 95 0 = some (0, 1, false)) ∧ (fldOf Tryz.prog 95 1 = some (1, 1, false)) ∧ (plOf Tryz.prog 24 = some [(0, 1), (1, 1), (2, 1), (3, 1)]) ∧ (plOf Tryz.prog 35 = some [(0, 1), (1, 1), (2, 1), (3, 1)]) ∧ (plOf Tryz.prog 40 = some [(0, 1), (1, 1), (2, 1)]) ∧ (plOf Tryz.prog 45 = some [(0, 1), (1, 1), (2, 1)]) ∧ (plOf Tryz.prog 49 = some [(0, 1), (1, 1)]) ∧ (plOf Tryz.prog 67 = some [(0, 4)]) ∧ (plOf Tryz.prog 159 = some [(0, 1), (1, 1), (2, 1)]) ∧ (plOf Tryz.prog 165 = some [(0, 1)]) ∧ (tiOf Tryz.prog 2 = some ⟨1, 8, false, [.int .i64 0]⟩) ∧ (tiOf Tryz.prog 3 = some ⟨1, 8, false, [.int .i64 0]⟩) ∧ (tiOf Tryz.prog 5 = some ⟨1, 1, false, [.int .u8 0]⟩) ∧ (tiOf Tryz.prog 9 = some ⟨1, 16, false, [.str []]⟩) ∧ (tiOf Tryz.prog 22 = some ⟨1, 24, false, [.vec [] true]⟩) ∧ (tiOf Tryz.prog 24 = some ⟨4, 56, true, [.int .i64 0, .str [], .int .i64 0, .vec [] true]⟩) ∧ (tiOf Tryz.prog 25 = some ⟨1, 24, false, [.vec [] true]⟩) ∧ (tiOf Tryz.prog 28 = some ⟨1, 24, false, [.vec [] true]⟩) ∧ (tiOf Tryz.prog 33 = some ⟨1, 24, false, [.vec [] true]⟩) ∧ (tiOf Tryz.prog 35 = some ⟨4, 56, true, [.int .i64 0, .str [], .int .i64 0, .vec [] true]⟩) ∧ (tiOf Tryz.prog 40 = some ⟨3, 32, true, [.int .i64 0, .str [], .int .i64 0]⟩) ∧ (tiOf Tryz.prog 42 = some ⟨1, 8, false, [.nilf]⟩) ∧ (tiOf Tryz.prog 43 = some ⟨1, 24, false, [.vec [] true]⟩) ∧ (tiOf Tryz.prog 45 = some ⟨3, 32, true, [.int .i64 0, .str [], .int .i64 0]⟩) ∧ (tiOf Tryz.prog 49 = some ⟨2, 32, true, [.vec [] true, .int .i64 0]⟩) ∧ (tiOf Tryz.prog 56 = some ⟨1, 8, false, [.nilm]⟩) ∧ (tiOf Tryz.prog 57 = some ⟨1, 8, false, [.nilf]⟩) ∧ (tiOf Tryz.prog 67 = some ⟨4, 56, true, [.int .i64 0, .str [], .int .i64 0, .vec [] true]⟩) ∧ (tiOf Tryz.prog 92 = some ⟨1, 16, false, [.nili]⟩) ∧ (tiOf Tryz.prog 93 = some ⟨1, 8, false, [.nilp]⟩) ∧ (tiOf Tryz.prog 95 = some ⟨2, 32, true, [.nilp, .vec [] true]⟩) ∧ (tiOf Tryz.prog 98 = some ⟨1, 16, false, [.nili]⟩) ∧ (tiOf Tryz.prog 115 = some ⟨24, 24, true, [.int .u8 0, .int .u8 0, .int .u8 0, .int .u8 0, .int .u8 0, .int .u8 0, .int .u8 0, .int .u8 0, .int .u8 0, .int .u8 0, .int .u8 0, .int .u8 0, .int .u8 0, .int .u8 0, .int .u8 0, .int .u8 0, .int .u8 0, .int .u8 0, .int .u8 0, .int .u8 0, .int .u8 0, .int .u8 0, .int .u8 0, .int .u8 0]⟩) ∧ (tiOf Tryz.prog 116 = some ⟨1, 8, false, [.int .u64 0]⟩) ∧ (tiOf Tryz.prog 136 = some ⟨65, 65, true, [.int .u8 0, .int .u8 0, .int .u8 0, .int .u8 0, .int .u8 0, .int .u8 0, .int .u8 0, .int .u8 0, .int .u8 0, .int .u8 0, .int .u8 0, .int .u8 0, .int .u8 0, .int .u8 0, .int .u8 0, .int .u8 0, .int .u8 0, .int .u8 0, .int .u8 0, .int .u8 0, .int .u8 0, .int .u8 0, .int .u8 0, .int .u8 0, .int .u8 0, .int .u8 0, .int .u8 0, .int .u8 0, .int .u8 0, .int .u8 0, .int .u8 0, .int .u8 0, .int .u8 0, .int .u8 0, .int .u8 0, .int .u8 0, .int .u8 0, .int .u8 0, .int .u8 0, .int .u8 0, .int .u8 0, .int .u8 0, .int .u8 0, .int .u8 0, .int .u8 0, .int .u8 0, .int .u8 0, .int .u8 0, .int .u8 0, .int .u8 0, .int .u8 0, .int .u8 0, .int .u8 0, .int .u8 0, .int .u8 0, .int .u8 0, .int .u8 0, .int .u8 0, .int .u8 0, .int .u8 0, .int .u8 0, .int .u8 0, .int .u8 0, .int .u8 0, .int .u8 0]⟩) ∧ (tiOf Tryz.prog 141 = some ⟨1, 8, false, [.int .u64 0]⟩) ∧ (tiOf Tryz.prog 159 = some ⟨3, 48, true, [.str [], .str [], .nili]⟩) ∧ (tiOf Tryz.prog 165 = some ⟨1, 16, true, [.str []]⟩) ∧ (Tryz.prog.underlying 2 = some (.int .i64)) ∧ (Tryz.prog.underlying 3 = some (.int .i64)) ∧ (Tryz.prog.underlying 4 = some .bool) ∧ (Tryz.prog.underlying 5 = some (.int .u8)) ∧ (Tryz.prog.underlying 9 = some .string) ∧ (Tryz.prog.underlying 22 = some (.slice 24)) ∧ (Tryz.prog.underlying 25 = some (.slice 5)) ∧ (Tryz.prog.underlying 28 = some (.slice 40)) ∧ (Tryz.prog.underlying 30 = some (.slice 45)) ∧ (Tryz.prog.underlying 33 = some (.slice 35)) ∧ (Tryz.prog.underlying 43 = some (.slice 9)) ∧ (Tryz.prog.underlying 56 = some (.map 9 3)) ∧ (Tryz.prog.underlying 65 = some (.slice 3)) ∧ (Tryz.prog.underlying 69 = some .string) ∧ (Tryz.prog.underlying 72 = some .string) ∧ (Tryz.prog.underlying 73 = some .string) ∧ (Tryz.prog.underlying 75 = some (.slice 28)) ∧ (Tryz.prog.underlying 90 = some (.slice 92)) ∧ (Tryz.prog.underlying 93 = some (.pointer 95)) ∧ (Tryz.prog.underlying 108 = some (.int .u64)) ∧ (Tryz.prog.underlying 116 = some (.int .u64)) ∧ (Tryz.prog.underlying 132 = some (.int .u32)) ∧ (Tryz.prog.underlying 141 = some (.int .u64)) ∧ (Tryz.prog.underlying 147 = some (.int .i64)) ∧ (Tryz.prog.underlying 150 = some (.pointer 159)) ∧ (Tryz.prog.underlying 163 = some (.pointer 165)) ∧ (tiOf Tryz.prog 69 = some ⟨1, 16, false, [.str []]⟩) ∧ (tiOf Tryz.prog 72 = some ⟨1, 16, false, [.str []]⟩) ∧ (tiOf Tryz.prog 73 = some ⟨1, 16, false, [.str []]⟩) :=
  ⟨ar81, ar112, ar115, ar135, ar136, ar161, ar162, el22, el25, el28, el30, el33, el43, el65, el75, el81, el90, el112, el115, el135, el136, el161, el162, eq40, eq45, fl24_0, fl24_1, fl24_2, fl24_3, fl35_0, fl35_1, fl35_2, fl35_3, fl40_1, fl45_0, fl45_1, fl45_2, fl49_0, fl49_1, fl67_0, fl95_0, fl95_1, pl24, pl35, pl40, pl45, pl49, pl67, pl159, pl165, ti2, ti3, ti5, ti9, ti22, ti24, ti25, ti28, ti33, ti35, ti40, ti42, ti43, ti45, ti49, ti56, ti57, ti67, ti92, ti93, ti95, ti98, ti115, ti116, ti136, ti141, ti159, ti165, un2, un3, un4, un5, un9, un22, un25, un28, un30, un33, un43, un56, un65, un69, un72, un73, un75, un90, un93, un108, un116, un132, un141, un147, un150, un163, ti69, ti72, ti73⟩
theorem dx :
    ((∀ n, (S1 n).length = 1) ∧ (∀ n, (S1 n)[0]? = some (.str n)) ∧ (∀ (m : Nat) n, PV.bdL m (S1 n) = true)) ∧
    ((∀ n, (I1 n).length = 1) ∧ (∀ n, (I1 n)[0]? = some (.int .i64 n)) ∧ (∀ (m : Nat) n, PV.bdL m (I1 n) = true)) ∧
    ((∀ n, (B8 n).length = 1) ∧ (∀ n, (B8 n)[0]? = some (.int .u8 n)) ∧ (∀ (m : Nat) n, PV.bdL m (B8 n) = true)) ∧
    ((∀ t : Tk, t.enc.length = 3) ∧ (∀ t : Tk, t.enc[0]? = some (.int .i64 t.kind)) ∧ (∀ t : Tk, t.enc[1]? = some (.str t.text)) ∧ (∀ t : Tk, t.enc[2]? = some (.int .i64 t.n)) ∧ (∀ t : Tk, t.enc.drop 1 = [.str t.text, .int .i64 t.n]) ∧ (∀ t : Tk, t.enc.drop 2 = [.int .i64 t.n]) ∧ (∀ t : Tk, t.enc.take 3 = t.enc) ∧ (∀ (m : Nat) (t : Tk), PV.bdL m t.enc = true)) :=
  ⟨S1_fw, I1_fw, B8_fw, Tk.fw⟩
end Go.Proofs.YtddnigahjahkbaaGreatDoor
namespace Go.Proofs.YtddnigahjahkbaaGreatDoor
set_option linter.unusedVariables false
set_option linter.unusedSimpArgs false
set_option maxRecDepth 100000
open Go.RowKit Fw
theorem wrapN (n : Nat) (h : n < 9223372036854775808) : IntKind.i64.wrap (n : Int) = n := by
  unfold IntKind.wrap
  have hb : IntKind.i64.bits = 64 := rfl
  have hsg : IntKind.i64.signed = true := rfl
  simp only [hb, hsg, Bool.true_and, decide_eq_true_eq]
  have : (n : Int) % 2 ^ 64 = n := by omega
  rw [this, if_neg (by omega)]
theorem c10 (Γ : Nat → PV) : ∀ a : Tm, a.Ok → Gives Tryz.prog Γ 10 [.agg a.enc] (.agg a.enc) := by
  suffices ∀ n, ∀ a : Tm, SizeOf.sizeOf a < n → a.Ok → Gives Tryz.prog Γ 10 [.agg a.enc] (.agg a.enc) from fun a => this _ a (Nat.lt_succ_self _)
  intro n
  induction n with
  | zero => intro a ha; omega
  | succ n ih =>
  intro a ha hok
  obtain ⟨_, hk2, hk3⟩ := hok
  refine fn_of_awp Tryz.func10 rfl (by simp [Tryz.f10]) (by simp only [fwA, ↓reduceIte, Nat.reduceAdd, Nat.reduceMul, Nat.reduceEqDiff, Nat.reduceLT, Nat.reduceLeDiff, reduceCtorEq, Tm.fw]) fun H => ?_
  refine awp_seq ?_
  -- region 0
  refine awp_run rfl (by simp only [fwA, ↓reduceIte, Nat.reduceAdd, Nat.reduceMul, Nat.reduceEqDiff, Nat.reduceLT, Nat.reduceLeDiff, reduceCtorEq, ti35] <;> rfl) ?_
  refine awp_seq ?_
  -- region 1
  refine awp_run rfl (by simp only [fwA, ↓reduceIte, Nat.reduceAdd, Nat.reduceMul, Nat.reduceEqDiff, Nat.reduceLT, Nat.reduceLeDiff, reduceCtorEq, fl24_0, ti3, fl24_1, ti9, fl24_2, ti2, ti35, pl35, Tm.fw] <;> rfl) ?_
  refine awp_seq ?_
  refine awp_seq ?_
  -- region 2
  refine awp_run rfl (by simp only [fwA, ↓reduceIte, Nat.reduceAdd, Nat.reduceMul, Nat.reduceEqDiff, Nat.reduceLT, Nat.reduceLeDiff, reduceCtorEq] <;> rfl) ?_
  refine awp_told (told_adoptBox (H.length + 2) 3 4 (by decide) (by simp only [fwA, ↓reduceIte, Nat.reduceAdd, Nat.reduceMul, Nat.reduceEqDiff, Nat.reduceLT, Nat.reduceLeDiff, reduceCtorEq] <;> rfl) rfl) ?_
  refine awp_block ?_
  refine awp_for [1, 2, 3, 4] (fun i : Nat => [.ptr H.length 0, .ptr (H.length + 1) 0, .ptr (H.length + 2) 0, .int .i64 (i : Int)])
    (fun i => H ++ [.box a.enc, .box [.int .i64 0, .str [], .int .i64 0, .vec [] true], .box [.int .i64 a.kind, .str a.name, .int .i64 a.n, .row (H.length + 3) 0 i 4], .row 4 ((a.kids.take i).map Tm.enc).flatten])
    (fun i => a.kids.length - i) (fun i => i ≤ a.kids.length) 0 rfl (by simp only [fwA, ↓reduceIte, Nat.reduceAdd, Nat.reduceMul, Nat.reduceEqDiff, Nat.reduceLT, Nat.reduceLeDiff, reduceCtorEq] <;> rfl) (Nat.zero_le _) fun i hi => ?_
  have hti : (a.kids.take i).length = i := by simp; omega
  refine awp_seq ?_
  refine awp_seq ?_
  -- region 3
  refine awp_run rfl (by simp only [fwA, ↓reduceIte, Nat.reduceAdd, Nat.reduceMul, Nat.reduceEqDiff, Nat.reduceLT, Nat.reduceLeDiff, reduceCtorEq, fl24_3, ti22, un22, Tm.fw, List.length_map] <;> rfl) ?_
  refine awp_vlen 14 rfl fun hlen => ?_
  rw [List.length_map] at hlen
  refine awp_cond (by simp only [fwA, ↓reduceIte, Nat.reduceAdd, Nat.reduceMul, Nat.reduceEqDiff, Nat.reduceLT, Nat.reduceLeDiff, reduceCtorEq] <;> rfl) ?_
  by_cases hc : (i : Int) < a.kids.length
  rotate_left
  · simp only [hc, decide_false, Bool.false_eq_true, ↓reduceIte]
    refine awp_exit ?_
    have hi' : i = a.kids.length := by omega
    refine awp_told (told_freezeAt H _ 3 (C := ((a.kids.take i).map Tm.enc).flatten) rfl (flat_bd (fun t => by simp only [Tm.fw]) _)) ?_
    have hl : (((a.kids.take i).map Tm.enc).flatten).length = i * 4 := by rw [flat_len Tm.enc_len, hti]
    have hch : chunk 4 i (((a.kids.take i).map Tm.enc).flatten) = (a.kids.take i).map Tm.enc := by
      have := flat_chunk Tm.enc_len (a.kids.take i)
      rwa [hti] at this
    refine awp_seq (awp_run rfl (by simp only [fwA, ↓reduceIte, Nat.reduceAdd, Nat.reduceMul, Nat.reduceEqDiff, Nat.reduceLT, Nat.reduceLeDiff, reduceCtorEq, ti35, hl, hch] <;> rfl) (awp_ret ?_))
    refine gives_end (.inl rfl) _ ?_
    rw [Tm.enc_eq]
    simp only [fwA, ↓reduceIte, Nat.reduceAdd, Nat.reduceMul, Nat.reduceEqDiff, Nat.reduceLT, Nat.reduceLeDiff, reduceCtorEq, ares, aresL, ares1, Tryz.f10, ti35, hi', List.take_length]
  simp only [hc, decide_true, ↓reduceIte]
  refine awp_skip ?_
  have hia : i < a.kids.length := by omega
  have ga : a.kids[i]? = some a.kids[i] := List.getElem?_eq_getElem hia
  refine awp_seq ?_
  refine awp_block ?_
  -- region 5 drawn
  refine awp_drawn [0, 1, 0, 1, 0, 0, 1, 0, 0, 2, 0, 2] [0, 1, 0, 4, 0, 28, 60, 124, 252, 511, 1023, 2047] mixed rfl (by kernel_rfl) ?_
  refine dops_run 7 (by simp only [fwA, ↓reduceIte, Nat.reduceAdd, Nat.reduceMul, Nat.reduceEqDiff, Nat.reduceLT, Nat.reduceLeDiff, reduceCtorEq, fl35_3, ti33, fl24_3, ti22, el22, ti24, Tm.fw, List.getElem?_map, ga, Option.map_some, Int.natCast_nonneg] <;> rfl) ?_
  refine dops_fn rfl rfl rfl rfl en10 (ih _ (by have := Tm.kids_lt (List.getElem_mem hia); omega) (hk3 _ (List.getElem_mem hia))) ?_
  refine dops_run 1 (by simp only [fwA, ↓reduceIte, Nat.reduceAdd, Nat.reduceMul, Nat.reduceEqDiff, Nat.reduceLT, Nat.reduceLeDiff, reduceCtorEq, un33, ti35, Tm.fw] <;> rfl) ?_
  refine dops_appendR rfl rfl rfl un33 ti35 un33 (.inl ⟨_, rfl⟩) rfl (by simp only [fwA, ↓reduceIte, Nat.reduceAdd, Nat.reduceMul, Nat.reduceEqDiff, Nat.reduceLT, Nat.reduceLeDiff, reduceCtorEq] <;> rfl) (by rw [flat_len Tm.enc_len, hti]; exact (Nat.zero_add _).symm) rfl
    (fun es f h e he => by
      simp only [fwA, ↓reduceIte, Nat.reduceAdd, Nat.reduceMul, Nat.reduceEqDiff, Nat.reduceLT, Nat.reduceLeDiff, reduceCtorEq, PV.vec.injEq] at h
      obtain ⟨rfl, rfl⟩ := h
      simp only [List.mem_singleton] at he
      subst he; exact Tm.enc_len _) rfl (by unfold reachBytes at hk2; show (i + 1) * 56 ≤ _; omega) (by show i + 1 ≤ _; omega) ?_
  refine dops_run 2 (by simp only [fwA, ↓reduceIte, Nat.reduceAdd, Nat.reduceMul, Nat.reduceEqDiff, Nat.reduceLT, Nat.reduceLeDiff, reduceCtorEq, fl35_3, ti33] <;> rfl) ?_
  refine dops_end ?_
  -- region 4
  refine awp_run rfl (by simp only [fwA, ↓reduceIte, Nat.reduceAdd, Nat.reduceMul, Nat.reduceEqDiff, Nat.reduceLT, Nat.reduceLeDiff, reduceCtorEq] <;> rfl) ?_
  refine ⟨i + 1, by omega, by omega, by rw [wrapS i (by omega)]; rfl, ?_, rfl⟩
  simp only [flatten_enc Tm.enc _ _ _ ga, List.flatten_cons, List.flatten_nil, List.append_nil]
end Go.Proofs.YtddnigahjahkbaaGreatDoor
namespace Go.Proofs.YtddnigahjahkbaaGreatDoor
set_option linter.unusedVariables false
set_option linter.unusedSimpArgs false
set_option maxRecDepth 100000
open Go.RowKit Fw
def maxL (l : List Nat) : Nat := l.foldl max 0
theorem foldl_max (l : List Nat) (a : Nat) : l.foldl max a = max a (l.foldl max 0) := by
  induction l generalizing a with
  | nil => simp
  | cons x l ih => simp only [List.foldl_cons]; rw [ih, ih (max 0 x)]; omega
theorem maxL_cons (x : Nat) (l : List Nat) : maxL (x :: l) = max x (maxL l) := by
  unfold maxL
  rw [List.foldl_cons, foldl_max]; simp
theorem maxL_snoc (l : List Nat) (x : Nat) : maxL (l ++ [x]) = max (maxL l) x := by simp [maxL, List.foldl_append]
theorem maxL_le {l : List Nat} {n : Nat} (h : ∀ x ∈ l, x ≤ n) : maxL l ≤ n := by
  induction l with
  | nil => exact Nat.zero_le _
  | cons x l ih => rw [maxL_cons]; exact Nat.max_le.2 ⟨h x (by simp), ih fun y hy => h y (by simp [hy])⟩
namespace Tm
mutual
def dep : Tm → Nat
  | mk _ _ _ ks => deps ks + 1
def deps : List Tm → Nat
  | [] => 0
  | t :: ts => max (dep t) (deps ts)
end
theorem deps_max : ∀ l : List Tm, deps l = maxL (l.map dep)
  | [] => rfl
  | t :: l => by rw [deps, List.map_cons, maxL_cons, deps_max l]
theorem dep_eq (t : Tm) : t.dep = maxL (t.kids.map dep) + 1 := by cases t; rw [dep, deps_max]; rfl
theorem ind {P : Tm → Prop} (h : ∀ t, (∀ k ∈ t.kids, P k) → P t) : ∀ t, P t := by
  suffices ∀ n, ∀ t : Tm, SizeOf.sizeOf t < n → P t from fun t => this _ t (Nat.lt_succ_self _)
  intro n
  induction n with
  | zero => intro t ht; omega
  | succ n ih => exact fun t ht => h t fun k hk => ih k (by have := kids_lt hk; omega)
theorem le_sum {k : Tm} {l : List Tm} (h : k ∈ l) : k.w ≤ (l.map w).sum := by
  induction l with
  | nil => cases h
  | cons x l ih =>
    rw [List.map_cons, List.sum_cons]
    rcases List.mem_cons.1 h with rfl | h
    · omega
    · have := ih h; omega
theorem kid_w {t k : Tm} (h : k ∈ t.kids) : k.w + 1 ≤ t.w := by rw [w_eq t]; have := le_sum h; omega
theorem dep_w : ∀ t : Tm, t.dep ≤ t.w := by
  refine ind fun t ih => ?_
  rw [dep_eq, w_eq]
  have := maxL_le (l := t.kids.map dep) (n := (t.kids.map w).sum) fun x hx => by
    obtain ⟨k, hk, rfl⟩ := List.mem_map.1 hx
    have := ih k hk; have := le_sum hk; omega
  omega
theorem kids_w (t : Tm) : t.kids.length + 1 ≤ t.w := by
  rw [w_eq]
  have : ∀ l : List Tm, l.length ≤ (l.map w).sum := fun l => by
    induction l with
    | nil => simp
    | cons x l ih => rw [List.length_cons, List.map_cons, List.sum_cons]; have : 1 ≤ x.w := by rw [w_eq]; omega
                     omega
  have := this t.kids
  omega
def binder (t : Tm) : Bool := decide (t.kind = 3) || decide (t.kind = 5) || decide (t.kind = 9)
end Tm
def letB (c : UInt8) : Bool := (decide (97 ≤ c.toNat) && decide (c.toNat ≤ 122)) || (decide (65 ≤ c.toNat) && decide (c.toNat ≤ 90))
def digB (c : UInt8) : Bool := decide (48 ≤ c.toNat) && decide (c.toNat ≤ 57)
def nmAt (i : Nat) (c : UInt8) : Bool := letB c && true || (digB c && decide (i ≠ 0))
def nmPre (s : List UInt8) (i : Nat) : Prop := ∀ j, j < i → ∀ c, s[j]? = some c → nmAt j c = true
def nameP (s : List UInt8) : Prop := 1 ≤ s.length ∧ s.length ≤ 16 ∧ nmPre s s.length
noncomputable instance (s : List UInt8) : Decidable (nameP s) := Classical.propDecidable _
theorem nmPre_succ {s : List UInt8} {i : Nat} {c : UInt8} (hc : s[i]? = some c) : nmPre s (i + 1) ↔ nmPre s i ∧ nmAt i c = true := by
  refine ⟨fun h => ⟨fun j hj => h j (by omega), h i (by omega) c hc⟩, fun ⟨h1, h2⟩ j hj d hd => ?_⟩
  by_cases e : j = i
  · subst e; rw [hc] at hd; cases hd; exact h2
  · exact h1 j (by omega) d hd
def kws : List (List UInt8) := [[102, 117, 110], [108, 101, 116], [105, 110], [105, 102], [116, 104, 101, 110], [101, 108, 115, 101], [119, 104, 105, 108, 101], [100, 111], [114, 97, 105, 115, 101], [116, 114, 121], [119, 105, 116, 104], [105, 110, 112, 117, 116], [99, 101, 108, 108], [100, 101, 102]]
def opNs : List (List UInt8) := [[43], [45], [42], [60], [61]]
def kidsTab : List Int := [-1, 0, 0, 1, 2, 2, 3, 2, 1, 2, 1, 2, 2, 2]
def wordP (s : List UInt8) : Prop := nameP s ∧ ¬ s ∈ kws
noncomputable instance (s : List UInt8) : Decidable (wordP s) := inferInstanceAs (Decidable (_ ∧ _))
def manyI (k : Int) : Int := if 1 ≤ k ∧ k < 14 then kidsTab.getD k.toNat 0 else -1
def nmOk (t : Tm) : Prop := if t.kind = 12 then t.name ∈ opNs else if t.kind = 2 ∨ t.binder = true then wordP t.name else t.name = []
noncomputable instance (t : Tm) : Decidable (nmOk t) := Classical.propDecidable _
def nodeP (t : Tm) : Prop := (1 ≤ t.kind ∧ t.kind < 14) ∧ (t.kids.length : Int) = kidsTab.getD t.kind.toNat 0 ∧ (t.kind ≠ 1 → t.n = 0) ∧ 0 ≤ t.n ∧ t.n < 2147483648 ∧ nmOk t
noncomputable instance (t : Tm) : Decidable (nodeP t) := Classical.propDecidable _
inductive Nodes : Tm → Prop
  | mk (t : Tm) (h : nodeP t) (hk : ∀ k ∈ t.kids, Nodes k) : Nodes t
theorem Nodes.node {t : Tm} (h : Nodes t) : nodeP t := by cases h; assumption
theorem Nodes.kids {t : Tm} (h : Nodes t) : ∀ k ∈ t.kids, Nodes k := by cases h; assumption
noncomputable instance (t : Tm) : Decidable (Nodes t) := Classical.propDecidable _
def RightT (t : Tm) : Prop := t.dep ≤ 200 ∧ t.w ≤ 10000 ∧ Nodes t
noncomputable instance (t : Tm) : Decidable (RightT t) := Classical.propDecidable _
def addT : List (List UInt8) → List UInt8 → List (List UInt8)
  | [], s => [s]
  | x :: l, s => if x < s then x :: addT l s else if x = s then x :: l else s :: x :: l
def addTs (out : List (List UInt8)) (b : Bool) (nm : List UInt8) : List (List UInt8) → List (List UInt8)
  | [] => out
  | x :: l => addTs (if !b || !decide (x = nm) then addT out x else out) b nm l
namespace Tm
mutual
def free : Tm → List (List UInt8)
  | mk k s _ ks => frees ks (if k = 2 then [s] else []) (decide (k = 3) || decide (k = 5) || decide (k = 9)) s
def frees : List Tm → List (List UInt8) → Bool → List UInt8 → List (List UInt8)
  | [], out, _, _ => out
  | t :: ts, out, b, s => frees ts (addTs out (b && ts.isEmpty) s (free t)) b s
end
theorem free_eq (t : Tm) : t.free = frees t.kids (if t.kind = 2 then [t.name] else []) t.binder t.name := by cases t; rw [free]; rfl
end Tm
end Go.Proofs.YtddnigahjahkbaaGreatDoor
namespace Go.Proofs.YtddnigahjahkbaaGreatDoor.Fw
set_option linter.unusedVariables false
set_option linter.unusedSimpArgs false
set_option maxRecDepth 100000
open Go.RowKit
theorem Sim.grown {Γ : Nat → PV} {w0 w w' : World} {G : Ghost} {H : List Blk} (h : Sim Γ w0 G H w) (hb : Below w.heap.size w w') : Sim Γ w0 G H w' :=
  h.step (Evol.refl _ _) (fun _ _ => rfl) (h.below.trans ⟨hb.os, hb.tape, hb.output, hb.size, fun k hk => hb.block k (Nat.lt_of_lt_of_le hk h.size)⟩) hb.size (fun k B hB hl => hb.block _ (h.own k B hB hl).2.1)
    (fun a v ha => by
      have := h.mem a v ha
      rw [cell_of_heap (w := w) (hb.block _ (World.block_lt_of_cell? w a this))]; exact this)
    (fun k B hB hl => (h.own k B hB hl).2.2)
theorem Sim.newOwn {X : Type} {Γ : Nat → PV} {w0 w w' : World} {G : Ghost} {H : List Blk} (h : Sim Γ w0 G H w) (hb : Below w.heap.size w w') {base : Nat} {e : TypeId} {v : Value} {xs : List X} {encV : X → Value} {encP : X → PV}
    (ho : w'.ownsRow base e 1 v xs.length (xs.map encV)) (hbase : w.heap.size ≤ base) (hr : ∀ x ∈ xs, ∀ G, Rep G 0 (encP x) (encV x)) (h1 : ∀ x, (encV x).oneCell' = true) :
    ∃ G', Sim Γ w0 G' H w' ∧ Evol G H.length G' ∧ ∀ n, Rep G' n (.vec (xs.map fun x => [encP x]) false) v := by
  have hs := h.grown hb
  rcases ho.2 with ⟨rfl, h0⟩ | ⟨g, cap, cur, rfl, hg, hheap, hc, hcm, hsz, htk⟩
  · have : xs = [] := List.eq_nil_of_length_eq_zero h0
    subst this
    exact ⟨G, hs, Evol.refl _ _, fun n => .vec0 _ _ _⟩
  · have hM : ∀ o s, G.M ⟨g, o, s⟩ = none := fun o s => h.M_new (by omega) o s
    have hcur : ∀ (i : Nat) x, xs[i]? = some x → cur[i]? = some (encV x) := fun i x hx => by
      have hi := (List.getElem?_eq_some_iff.1 hx).1
      have := congrArg (·[i]?) htk
      simp only [List.getElem?_map, hx, Option.map_some, Nat.mul_one] at this
      rwa [List.getElem?_take_of_lt hi, Array.getElem?_toList] at this
    refine ⟨G.keep g xs.length cur, hs.step (Evol.keep _ hM) (fun _ _ => rfl) hs.below (Nat.le_refl _) (fun _ _ _ _ => rfl) (fun a u ha => ?_) (fun k B hB hl o s => ?_), Evol.keep _ hM, fun n => ?_⟩
    · obtain ⟨b, o, s⟩ := a
      by_cases hbg : b = g
      · subst hbg
        simp only [Ghost.keep] at ha
        split at ha
        · rename_i hcc
          obtain ⟨_, hsp, _⟩ := hcc
          subst hsp
          simp only [World.cell?, hheap]
          simpa using ha
        · rw [hM] at ha; cases ha
      · rw [G.keep_other hbg] at ha
        exact hs.mem _ u ha
    · have := h.own k B hB hl
      rw [G.keep_other (by omega)]; exact this.2.2 o s
    · have hr' : Rep (G.keep g xs.length cur) n (.vec (xs.map fun x => [encP x]) false) (.slice (some ⟨g, 0, none⟩) (xs.map fun x => [encP x]).length cap) := by
        have key : ∀ (i j : Nat) ee c, (xs.map fun x => [encP x])[i]? = some ee → ee[j]? = some c → j = 0 ∧ ∃ x, xs[i]? = some x ∧ c = encP x := fun i j ee c hi hj => by
          rw [List.getElem?_map] at hi
          obtain ⟨x, hx, rfl⟩ := Option.map_eq_some_iff.1 hi
          cases j with
          | zero => simp at hj; exact ⟨rfl, x, hx, hj.symm⟩
          | succ j => simp at hj
        refine .vec n _ false g 0 1 cap (fun i => cur.getD i undef) (by rw [List.length_map]; unfold maxLen at hcm; omega) (by rw [List.length_map]; exact hc) (fun hf => by cases hf) (fun ee he => by
          obtain ⟨x, _, rfl⟩ := List.mem_map.1 he; rfl) (fun i j ee c hi hj => ?_) (fun i j ee c hi hj => ?_) (fun i j ee c hi hj => ?_)
        · obtain ⟨rfl, x, hx, rfl⟩ := key i j ee c hi hj
          have hi' := (List.getElem?_eq_some_iff.1 hx).1
          rw [show 0 + (i * 1 + 0) = i by omega, show i * 1 + 0 = i by omega, G.keep_at hi', Array.getD_eq_getD_getElem?, hcur i x hx]; rfl
        · obtain ⟨rfl, x, hx, rfl⟩ := key i j ee c hi hj
          rw [show i * 1 + 0 = i by omega]
          rw [Array.getD_eq_getD_getElem?, hcur i x hx]
          exact hr x (List.mem_of_getElem? hx) _
        · obtain ⟨rfl, x, hx, rfl⟩ := key i j ee c hi hj
          rw [show i * 1 + 0 = i by omega]
          rw [Array.getD_eq_getD_getElem?, hcur i x hx]
          exact h1 x
      rwa [List.length_map] at hr'
theorem os_sliceArr {P : Program} {Γ : Nat → PV} {A : List (Nat × PV)} {H : List Blk} {o : Oper} {K : PV → List Blk → Prop} {t : TypeId} {x : Operand} {cs : List PV} {m : Nat} (ho : o.op = .slice t x none none none) (ht : arOf P t = some (m, 1))
    (hx : ev Γ A x = .cptr cs) (hm : cs.length = m) (h0 : 0 < m) (hb : m ≤ 9223372036854775807) (hk : K (.vec (cs.map fun c => [c]) true) H) : OStep P Γ o A H K :=
  ostep_pure (by simp [ho]) _ hk fun w0 G w N a hs ha => by
    obtain ⟨te, i, hu, hinf, hsz⟩ := arOf_spec ht
    have h1 := ha.ev hs.glob x
    rw [hx] at h1
    generalize hax : a.eval x = v at h1
    cases h1 with
    | cptr _ _ b q vs r1 r2 r3 =>
      refine ⟨.slice (some ⟨b, q, none⟩) (cs.map fun c => [c]).length m, ?_, ?_⟩
      · have hbd : (Instr.sliceBounds false m m none none none).run P w = .ok (0, m, m) w := by simp [Instr.sliceBounds]
        have : ¬ (m = 0) := by omega
        simp [execOp, ho, Instr.sliceAt, Instr.sureAddr, run_under hu, hax, hbd, run_size hinf, hsz, hm, Fw.add_at]
      · have key : ∀ (i j : Nat) e c, (cs.map fun c => [c])[i]? = some e → e[j]? = some c → j = 0 ∧ cs[i]? = some c := fun i j e c hi hj => by
          rw [List.getElem?_map] at hi
          obtain ⟨x, hx, rfl⟩ := Option.map_eq_some_iff.1 hi
          cases j with
          | zero => simp at hj; exact ⟨rfl, hj ▸ hx⟩
          | succ j => simp at hj
        refine .vec _ _ true b q 1 m vs (by rw [List.length_map]; omega) (by rw [List.length_map]; omega) (fun _ => by rw [List.length_map]; omega) (fun e he => by
          obtain ⟨x, _, rfl⟩ := List.mem_map.1 he; rfl) (fun i j e c hi hj => ?_) (fun i j e c hi hj => ?_) (fun i j e c hi hj => ?_)
        · obtain ⟨rfl, h⟩ := key i j e c hi hj
          rw [show i * 1 + 0 = i by omega]; exact r1 i c h
        · obtain ⟨rfl, h⟩ := key i j e c hi hj
          rw [show i * 1 + 0 = i by omega]; exact r2 i c h
        · obtain ⟨rfl, h⟩ := key i j e c hi hj
          rw [show i * 1 + 0 = i by omega]; exact r3 i c h
end Go.Proofs.YtddnigahjahkbaaGreatDoor.Fw
namespace Go.Proofs.YtddnigahjahkbaaGreatDoor
set_option linter.unusedVariables false
set_option linter.unusedSimpArgs false
set_option maxRecDepth 100000
open Go.RowKit Fw
theorem sum_take (l : List Tm) {i : Nat} (h : i < l.length) : ((l.take (i + 1)).map Tm.w).sum = ((l.take i).map Tm.w).sum + l[i].w := by
  rw [List.take_add_one, List.getElem?_eq_getElem h, List.map_append, List.sum_append]
  simp only [Option.toList_some, List.map_cons, List.map_nil, List.sum_cons, List.sum_nil, Nat.add_zero]
theorem sum_le (l : List Tm) (i : Nat) : ((l.take i).map Tm.w).sum ≤ (l.map Tm.w).sum := by
  conv => rhs; rw [← List.take_append_drop i l, List.map_append, List.sum_append]
  omega
theorem max_take (l : List Tm) {i : Nat} (h : i < l.length) : maxL ((l.take (i + 1)).map Tm.dep) = max (maxL ((l.take i).map Tm.dep)) l[i].dep := by
  rw [List.take_add_one, List.getElem?_eq_getElem h, List.map_append]
  exact maxL_snoc _ _
theorem max_of (a b : Nat) : (if (a : Int) < b then (b : Int) else (a : Int)) = ((max a b : Nat) : Int) := by
  split <;> omega
theorem c26 (Γ : Nat → PV) : ∀ a : Tm, a.w ≤ 4611686018427387904 → Gives Tryz.prog Γ 26 [.agg a.enc] (.int .i64 a.w) := by
  refine Tm.ind fun a ih hw => ?_
  have hwe := Tm.w_eq a
  have hdw := Tm.dep_w a
  have hkw := Tm.kids_w a
  refine fn_of_awp Tryz.func26 rfl (by simp [Tryz.f26]) rfl fun H => ?_
  refine awp_seq ?_
  refine awp_run rfl (by simp only [fwA, ↓reduceIte, Nat.reduceAdd, Nat.reduceMul, Nat.reduceEqDiff, Nat.reduceLT, Nat.reduceLeDiff, reduceCtorEq, Tm.fw] <;> rfl) ?_
  refine awp_seq ?_
  refine awp_run rfl (by simp only [fwA, ↓reduceIte, Nat.reduceAdd, Nat.reduceMul, Nat.reduceEqDiff, Nat.reduceLT, Nat.reduceLeDiff, reduceCtorEq] <;> rfl) ?_
  refine awp_seq ?_
  refine awp_seq ?_
  refine awp_run rfl (by simp only [fwA, ↓reduceIte, Nat.reduceAdd, Nat.reduceMul, Nat.reduceEqDiff, Nat.reduceLT, Nat.reduceLeDiff, reduceCtorEq, fl24_3, ti22, un22, el22, ti24, Tm.fw, List.length_map] <;> rfl) ?_
  refine awp_bd fun hbd => ?_
  refine awp_block ?_
  refine awp_forG [3, 7, 8, 9] (fun i : Nat => [.int .i64 ((((a.kids.take i).map Tm.w).sum + 1 : Nat) : Int), .vec (a.kids.map Tm.enc) false, .int .i64 a.kids.length, .int .i64 i]) (fun _ => H ++ [.box a.enc]) (fun i => a.kids.length - i) (fun i => i ≤ a.kids.length) 0 (by simp [alook, aput, ev, maxL]) rfl (Nat.zero_le _) (fun i _ => ⟨hbd, by simp [PV.bdL, PV.bd]⟩) (fun i _ b hb => by cases hb) fun i hi => ?_
  refine awp_seq ?_
  refine awp_run rfl (by simp only [fwA, ↓reduceIte, Nat.reduceAdd, Nat.reduceMul, Nat.reduceEqDiff, Nat.reduceLT, Nat.reduceLeDiff, reduceCtorEq] <;> rfl) ?_
  refine awp_seq ?_
  refine awp_cond (by simp only [fwA, ↓reduceIte, Nat.reduceAdd, Nat.reduceMul, Nat.reduceEqDiff, Nat.reduceLT, Nat.reduceLeDiff, reduceCtorEq] <;> rfl) ?_
  by_cases hc : (i : Int) < a.kids.length
  · simp only [hc, decide_true, ↓reduceIte]
    refine awp_skip ?_
    have hil : i < a.kids.length := by omega
    have gi : a.kids[i]? = some a.kids[i] := List.getElem?_eq_getElem hil
    have hkk := Tm.kid_w (List.getElem_mem hil)
    have hks := sum_take a.kids hil
    have hle := sum_le a.kids (i + 1)
    have hmx := max_take a.kids hil
    have hw1 : IntKind.i64.wrap ((((a.kids.take i).map Tm.w).sum + 1 : Nat) + (a.kids[i].w : Int)) = ((((a.kids.take (i + 1)).map Tm.w).sum + 1 : Nat) : Int) := by
      rw [wrapId ⟨by omega, by omega⟩]; omega
    have ihk := ih a.kids[i] (List.getElem_mem hil) (by omega)
    refine awp_seq ?_
    refine awp_block ?_
    refine awp_seq ?_
    refine awp_run rfl (by simp only [fwA, ↓reduceIte, Nat.reduceAdd, Nat.reduceMul, Nat.reduceEqDiff, Nat.reduceLT, Nat.reduceLeDiff, reduceCtorEq, fl24_3, ti22, un22, el22, ti24, Tm.fw, List.getElem?_map, gi, Option.map_some, Int.natCast_nonneg] <;> rfl) ?_
    refine awp_region rfl ?_
    refine aops_run 2 (by simp only [fwA, ↓reduceIte, Nat.reduceAdd, Nat.reduceMul, Nat.reduceEqDiff, Nat.reduceLT, Nat.reduceLeDiff, reduceCtorEq, fl24_3, ti22, un22, el22, ti24, Tm.fw] <;> rfl) ?_
    refine aops_fn rfl rfl rfl en26 ihk ?_
    refine aops_run 2 (by simp only [fwA, ↓reduceIte, Nat.reduceAdd, Nat.reduceMul, Nat.reduceEqDiff, Nat.reduceLT, Nat.reduceLeDiff, reduceCtorEq, hw1] <;> rfl) ?_
    refine awp_run rfl (by simp only [fwA, ↓reduceIte, Nat.reduceAdd, Nat.reduceMul, Nat.reduceEqDiff, Nat.reduceLT, Nat.reduceLeDiff, reduceCtorEq, wrapS i (by omega)] <;> rfl) ?_
    exact ⟨i + 1, [.box a.kids[i].enc], by omega, by omega, by rfl, by simp, rfl, Nat.le_refl _⟩
  simp only [hc, decide_false, Bool.false_eq_true, ↓reduceIte]
  refine awp_exit ?_
  have hie : i = a.kids.length := by omega
  subst hie
  rw [List.take_length]
  simp only [Post.block, Post.then, ↓reduceIte]
  refine awp_seq ?_
  rw [← hwe]
  refine awp_run rfl (by simp only [fwA, ↓reduceIte, Nat.reduceAdd, Nat.reduceMul, Nat.reduceEqDiff, Nat.reduceLT, Nat.reduceLeDiff, reduceCtorEq] <;> rfl) ?_
  refine awp_ret ?_
  exact gives_end (.inl rfl) _ rfl
theorem c39 (Γ : Nat → PV) : ∀ a : Tm, a.w ≤ 4611686018427387904 → Gives Tryz.prog Γ 39 [.agg a.enc] (.int .i64 a.w) := by
  refine Tm.ind fun a ih hw => ?_
  have hwe := Tm.w_eq a
  have hdw := Tm.dep_w a
  have hkw := Tm.kids_w a
  refine fn_of_awp Tryz.func39 rfl (by simp [Tryz.f39]) rfl fun H => ?_
  refine awp_seq ?_
  refine awp_run rfl (by simp only [fwA, ↓reduceIte, Nat.reduceAdd, Nat.reduceMul, Nat.reduceEqDiff, Nat.reduceLT, Nat.reduceLeDiff, reduceCtorEq, Tm.fw] <;> rfl) ?_
  refine awp_seq ?_
  refine awp_run rfl (by simp only [fwA, ↓reduceIte, Nat.reduceAdd, Nat.reduceMul, Nat.reduceEqDiff, Nat.reduceLT, Nat.reduceLeDiff, reduceCtorEq] <;> rfl) ?_
  refine awp_seq ?_
  refine awp_seq ?_
  refine awp_run rfl (by simp only [fwA, ↓reduceIte, Nat.reduceAdd, Nat.reduceMul, Nat.reduceEqDiff, Nat.reduceLT, Nat.reduceLeDiff, reduceCtorEq] <;> rfl) ?_
  refine awp_block ?_
  refine awp_for [1, 3, 4] (fun i : Nat => [.ptr H.length 0, .int .i64 ((((a.kids.take i).map Tm.w).sum + 1 : Nat) : Int), .int .i64 i]) (fun _ => H ++ [.box a.enc]) (fun i => a.kids.length - i) (fun i => i ≤ a.kids.length) 0 (by simp [alook, aput, ev, maxL]) rfl (Nat.zero_le _) fun i hi => ?_
  refine awp_seq ?_
  refine awp_seq ?_
  refine awp_run rfl (by simp only [fwA, ↓reduceIte, Nat.reduceAdd, Nat.reduceMul, Nat.reduceEqDiff, Nat.reduceLT, Nat.reduceLeDiff, reduceCtorEq, fl35_3, ti33, un33, el33, ti35, Tm.fw, List.length_map] <;> rfl) ?_
  refine awp_cond (by simp only [fwA, ↓reduceIte, Nat.reduceAdd, Nat.reduceMul, Nat.reduceEqDiff, Nat.reduceLT, Nat.reduceLeDiff, reduceCtorEq] <;> rfl) ?_
  by_cases hc : (i : Int) < a.kids.length
  · simp only [hc, decide_true, ↓reduceIte]
    refine awp_skip ?_
    have hil : i < a.kids.length := by omega
    have gi : a.kids[i]? = some a.kids[i] := List.getElem?_eq_getElem hil
    have hkk := Tm.kid_w (List.getElem_mem hil)
    have hks := sum_take a.kids hil
    have hle := sum_le a.kids (i + 1)
    have hmx := max_take a.kids hil
    have hw1 : IntKind.i64.wrap ((((a.kids.take i).map Tm.w).sum + 1 : Nat) + (a.kids[i].w : Int)) = ((((a.kids.take (i + 1)).map Tm.w).sum + 1 : Nat) : Int) := by
      rw [wrapId ⟨by omega, by omega⟩]; omega
    have ihk := ih a.kids[i] (List.getElem_mem hil) (by omega)
    refine awp_seq ?_
    refine awp_block ?_
    refine awp_region rfl ?_
    refine aops_run 6 (by simp only [fwA, ↓reduceIte, Nat.reduceAdd, Nat.reduceMul, Nat.reduceEqDiff, Nat.reduceLT, Nat.reduceLeDiff, reduceCtorEq, fl35_3, ti33, un33, el33, ti35, Tm.fw, List.getElem?_map, gi, Option.map_some, Int.natCast_nonneg] <;> rfl) ?_
    refine aops_fn rfl rfl rfl en39 ihk ?_
    refine aops_run 2 (by simp only [fwA, ↓reduceIte, Nat.reduceAdd, Nat.reduceMul, Nat.reduceEqDiff, Nat.reduceLT, Nat.reduceLeDiff, reduceCtorEq, hw1] <;> rfl) ?_
    refine awp_run rfl (by simp only [fwA, ↓reduceIte, Nat.reduceAdd, Nat.reduceMul, Nat.reduceEqDiff, Nat.reduceLT, Nat.reduceLeDiff, reduceCtorEq, wrapS i (by omega)] <;> rfl) ?_
    exact ⟨i + 1, by omega, by omega, by rfl, rfl, rfl⟩
  simp only [hc, decide_false, Bool.false_eq_true, ↓reduceIte]
  refine awp_exit ?_
  have hie : i = a.kids.length := by omega
  subst hie
  rw [List.take_length]
  simp only [Post.block, Post.then, ↓reduceIte]
  refine awp_seq ?_
  rw [← hwe]
  refine awp_run rfl (by simp only [fwA, ↓reduceIte, Nat.reduceAdd, Nat.reduceMul, Nat.reduceEqDiff, Nat.reduceLT, Nat.reduceLeDiff, reduceCtorEq] <;> rfl) ?_
  refine awp_ret ?_
  exact gives_end (.inl rfl) _ rfl
theorem c25 (Γ : Nat → PV) : ∀ a : Tm, a.w ≤ 4611686018427387904 → Gives Tryz.prog Γ 25 [.agg a.enc] (.int .i64 a.dep) := by
  refine Tm.ind fun a ih hw => ?_
  have hwe := Tm.w_eq a
  have hdw := Tm.dep_w a
  have hkw := Tm.kids_w a
  refine fn_of_awp Tryz.func25 rfl (by simp [Tryz.f25]) rfl fun H => ?_
  refine awp_seq ?_
  refine awp_run rfl (by simp only [fwA, ↓reduceIte, Nat.reduceAdd, Nat.reduceMul, Nat.reduceEqDiff, Nat.reduceLT, Nat.reduceLeDiff, reduceCtorEq, Tm.fw] <;> rfl) ?_
  refine awp_seq ?_
  refine awp_run rfl (by simp only [fwA, ↓reduceIte, Nat.reduceAdd, Nat.reduceMul, Nat.reduceEqDiff, Nat.reduceLT, Nat.reduceLeDiff, reduceCtorEq] <;> rfl) ?_
  refine awp_seq ?_
  refine awp_seq ?_
  refine awp_run rfl (by simp only [fwA, ↓reduceIte, Nat.reduceAdd, Nat.reduceMul, Nat.reduceEqDiff, Nat.reduceLT, Nat.reduceLeDiff, reduceCtorEq, fl24_3, ti22, un22, el22, ti24, Tm.fw, List.length_map] <;> rfl) ?_
  refine awp_bd fun hbd => ?_
  refine awp_block ?_
  refine awp_forG [3, 7, 8, 9] (fun i : Nat => [.int .i64 ((maxL ((a.kids.take i).map Tm.dep) : Nat) : Int), .vec (a.kids.map Tm.enc) false, .int .i64 a.kids.length, .int .i64 i]) (fun _ => H ++ [.box a.enc]) (fun i => a.kids.length - i) (fun i => i ≤ a.kids.length) 0 (by simp [alook, aput, ev, maxL]) rfl (Nat.zero_le _) (fun i _ => ⟨hbd, by simp [PV.bdL, PV.bd]⟩) (fun i _ b hb => by cases hb) fun i hi => ?_
  refine awp_seq ?_
  refine awp_run rfl (by simp only [fwA, ↓reduceIte, Nat.reduceAdd, Nat.reduceMul, Nat.reduceEqDiff, Nat.reduceLT, Nat.reduceLeDiff, reduceCtorEq] <;> rfl) ?_
  refine awp_seq ?_
  refine awp_cond (by simp only [fwA, ↓reduceIte, Nat.reduceAdd, Nat.reduceMul, Nat.reduceEqDiff, Nat.reduceLT, Nat.reduceLeDiff, reduceCtorEq] <;> rfl) ?_
  by_cases hc : (i : Int) < a.kids.length
  · simp only [hc, decide_true, ↓reduceIte]
    refine awp_skip ?_
    have hil : i < a.kids.length := by omega
    have gi : a.kids[i]? = some a.kids[i] := List.getElem?_eq_getElem hil
    have hkk := Tm.kid_w (List.getElem_mem hil)
    have hks := sum_take a.kids hil
    have hle := sum_le a.kids (i + 1)
    have hmx := max_take a.kids hil
    have hw1 : IntKind.i64.wrap ((((a.kids.take i).map Tm.w).sum + 1 : Nat) + (a.kids[i].w : Int)) = ((((a.kids.take (i + 1)).map Tm.w).sum + 1 : Nat) : Int) := by
      rw [wrapId ⟨by omega, by omega⟩]; omega
    have ihk := ih a.kids[i] (List.getElem_mem hil) (by omega)
    refine awp_seq ?_
    refine awp_block ?_
    refine awp_seq ?_
    refine awp_run rfl (by simp only [fwA, ↓reduceIte, Nat.reduceAdd, Nat.reduceMul, Nat.reduceEqDiff, Nat.reduceLT, Nat.reduceLeDiff, reduceCtorEq, fl24_3, ti22, un22, el22, ti24, Tm.fw, List.getElem?_map, gi, Option.map_some, Int.natCast_nonneg] <;> rfl) ?_
    refine awp_region rfl ?_
    refine aops_run 2 (by simp only [fwA, ↓reduceIte, Nat.reduceAdd, Nat.reduceMul, Nat.reduceEqDiff, Nat.reduceLT, Nat.reduceLeDiff, reduceCtorEq, fl24_3, ti22, un22, el22, ti24, Tm.fw] <;> rfl) ?_
    refine aops_fn rfl rfl rfl en25 ihk ?_
    refine aops_one rfl (os_max rfl rfl rfl ?_)
    refine aops_run 1 (by simp only [fwA, ↓reduceIte, Nat.reduceAdd, Nat.reduceMul, Nat.reduceEqDiff, Nat.reduceLT, Nat.reduceLeDiff, reduceCtorEq] <;> rfl) ?_
    refine awp_run rfl (by simp only [fwA, ↓reduceIte, Nat.reduceAdd, Nat.reduceMul, Nat.reduceEqDiff, Nat.reduceLT, Nat.reduceLeDiff, reduceCtorEq, wrapS i (by omega)] <;> rfl) ?_
    exact ⟨i + 1, [.box a.kids[i].enc], by omega, by omega, by rw [hmx, ← max_of]; rfl, by simp, rfl, Nat.le_refl _⟩
  simp only [hc, decide_false, Bool.false_eq_true, ↓reduceIte]
  refine awp_exit ?_
  have hie : i = a.kids.length := by omega
  subst hie
  rw [List.take_length]
  simp only [Post.block, Post.then, ↓reduceIte]
  refine awp_seq ?_
  have hde := Tm.dep_eq a
  have hw2 : IntKind.i64.wrap ((maxL (a.kids.map Tm.dep) : Int) + 1) = (a.dep : Int) := by rw [wrapId ⟨by omega, by omega⟩]; omega
  refine awp_run rfl (by simp only [fwA, ↓reduceIte, Nat.reduceAdd, Nat.reduceMul, Nat.reduceEqDiff, Nat.reduceLT, Nat.reduceLeDiff, reduceCtorEq, hw2] <;> rfl) ?_
  refine awp_ret ?_
  exact gives_end (.inl rfl) _ rfl
theorem c38 (Γ : Nat → PV) : ∀ a : Tm, a.w ≤ 4611686018427387904 → Gives Tryz.prog Γ 38 [.agg a.enc] (.int .i64 a.dep) := by
  refine Tm.ind fun a ih hw => ?_
  have hwe := Tm.w_eq a
  have hdw := Tm.dep_w a
  have hkw := Tm.kids_w a
  refine fn_of_awp Tryz.func38 rfl (by simp [Tryz.f38]) rfl fun H => ?_
  refine awp_seq ?_
  refine awp_run rfl (by simp only [fwA, ↓reduceIte, Nat.reduceAdd, Nat.reduceMul, Nat.reduceEqDiff, Nat.reduceLT, Nat.reduceLeDiff, reduceCtorEq, Tm.fw] <;> rfl) ?_
  refine awp_seq ?_
  refine awp_run rfl (by simp only [fwA, ↓reduceIte, Nat.reduceAdd, Nat.reduceMul, Nat.reduceEqDiff, Nat.reduceLT, Nat.reduceLeDiff, reduceCtorEq] <;> rfl) ?_
  refine awp_seq ?_
  refine awp_seq ?_
  refine awp_run rfl (by simp only [fwA, ↓reduceIte, Nat.reduceAdd, Nat.reduceMul, Nat.reduceEqDiff, Nat.reduceLT, Nat.reduceLeDiff, reduceCtorEq] <;> rfl) ?_
  refine awp_block ?_
  refine awp_for [1, 3, 4] (fun i : Nat => [.ptr H.length 0, .int .i64 ((maxL ((a.kids.take i).map Tm.dep) : Nat) : Int), .int .i64 i]) (fun _ => H ++ [.box a.enc]) (fun i => a.kids.length - i) (fun i => i ≤ a.kids.length) 0 (by simp [alook, aput, ev, maxL]) rfl (Nat.zero_le _) fun i hi => ?_
  refine awp_seq ?_
  refine awp_seq ?_
  refine awp_run rfl (by simp only [fwA, ↓reduceIte, Nat.reduceAdd, Nat.reduceMul, Nat.reduceEqDiff, Nat.reduceLT, Nat.reduceLeDiff, reduceCtorEq, fl35_3, ti33, un33, el33, ti35, Tm.fw, List.length_map] <;> rfl) ?_
  refine awp_cond (by simp only [fwA, ↓reduceIte, Nat.reduceAdd, Nat.reduceMul, Nat.reduceEqDiff, Nat.reduceLT, Nat.reduceLeDiff, reduceCtorEq] <;> rfl) ?_
  by_cases hc : (i : Int) < a.kids.length
  · simp only [hc, decide_true, ↓reduceIte]
    refine awp_skip ?_
    have hil : i < a.kids.length := by omega
    have gi : a.kids[i]? = some a.kids[i] := List.getElem?_eq_getElem hil
    have hkk := Tm.kid_w (List.getElem_mem hil)
    have hks := sum_take a.kids hil
    have hle := sum_le a.kids (i + 1)
    have hmx := max_take a.kids hil
    have hw1 : IntKind.i64.wrap ((((a.kids.take i).map Tm.w).sum + 1 : Nat) + (a.kids[i].w : Int)) = ((((a.kids.take (i + 1)).map Tm.w).sum + 1 : Nat) : Int) := by
      rw [wrapId ⟨by omega, by omega⟩]; omega
    have ihk := ih a.kids[i] (List.getElem_mem hil) (by omega)
    refine awp_seq ?_
    refine awp_block ?_
    refine awp_region rfl ?_
    refine aops_run 6 (by simp only [fwA, ↓reduceIte, Nat.reduceAdd, Nat.reduceMul, Nat.reduceEqDiff, Nat.reduceLT, Nat.reduceLeDiff, reduceCtorEq, fl35_3, ti33, un33, el33, ti35, Tm.fw, List.getElem?_map, gi, Option.map_some, Int.natCast_nonneg] <;> rfl) ?_
    refine aops_fn rfl rfl rfl en38 ihk ?_
    refine aops_one rfl (os_max rfl rfl rfl ?_)
    refine aops_run 1 (by simp only [fwA, ↓reduceIte, Nat.reduceAdd, Nat.reduceMul, Nat.reduceEqDiff, Nat.reduceLT, Nat.reduceLeDiff, reduceCtorEq] <;> rfl) ?_
    refine awp_run rfl (by simp only [fwA, ↓reduceIte, Nat.reduceAdd, Nat.reduceMul, Nat.reduceEqDiff, Nat.reduceLT, Nat.reduceLeDiff, reduceCtorEq, wrapS i (by omega)] <;> rfl) ?_
    exact ⟨i + 1, by omega, by omega, by rw [hmx, ← max_of]; rfl, rfl, rfl⟩
  simp only [hc, decide_false, Bool.false_eq_true, ↓reduceIte]
  refine awp_exit ?_
  have hie : i = a.kids.length := by omega
  subst hie
  rw [List.take_length]
  simp only [Post.block, Post.then, ↓reduceIte]
  refine awp_seq ?_
  have hde := Tm.dep_eq a
  have hw2 : IntKind.i64.wrap ((maxL (a.kids.map Tm.dep) : Int) + 1) = (a.dep : Int) := by rw [wrapId ⟨by omega, by omega⟩]; omega
  refine awp_run rfl (by simp only [fwA, ↓reduceIte, Nat.reduceAdd, Nat.reduceMul, Nat.reduceEqDiff, Nat.reduceLT, Nat.reduceLeDiff, reduceCtorEq, hw2] <;> rfl) ?_
  refine awp_ret ?_
  exact gives_end (.inl rfl) _ rfl
theorem c28 (Γ : Nat → PV) (a : Tm) : Gives Tryz.prog Γ 28 [.agg a.enc] (.bool a.binder) := by
  refine fn_of_awp Tryz.func28 rfl (by simp [Tryz.f28]) rfl fun H => ?_
  refine awp_seq ?_
  refine awp_run rfl (by simp only [fwA, ↓reduceIte, Nat.reduceAdd, Nat.reduceMul, Nat.reduceEqDiff, Nat.reduceLT, Nat.reduceLeDiff, reduceCtorEq] <;> rfl) ?_
  refine awp_seq ?_
  unfold Tm.binder
  by_cases h3 : a.kind = 3
  · refine awp_run rfl (by simp only [fwA, ↓reduceIte, Nat.reduceAdd, Nat.reduceMul, Nat.reduceEqDiff, Nat.reduceLT, Nat.reduceLeDiff, reduceCtorEq, fl24_0, ti3, Tm.fw, h3, decide_true] <;> rfl) ?_
    exact awp_ret (gives_end (.inl rfl) _ (by simp only [h3, decide_true, Bool.true_or]; rfl))
  by_cases h5 : a.kind = 5
  · refine awp_run rfl (by simp only [fwA, ↓reduceIte, Nat.reduceAdd, Nat.reduceMul, Nat.reduceEqDiff, Nat.reduceLT, Nat.reduceLeDiff, reduceCtorEq, fl24_0, ti3, Tm.fw, h3, h5, decide_true, decide_false] <;> rfl) ?_
    exact awp_ret (gives_end (.inl rfl) _ (by simp only [h3, h5, decide_true, decide_false, Bool.true_or, Bool.or_true]; rfl))
  refine awp_run rfl (by simp only [fwA, ↓reduceIte, Nat.reduceAdd, Nat.reduceMul, Nat.reduceEqDiff, Nat.reduceLT, Nat.reduceLeDiff, reduceCtorEq, fl24_0, ti3, Tm.fw, h3, h5, decide_false] <;> rfl) ?_
  exact awp_ret (gives_end (.inl rfl) _ (by simp only [h3, h5, decide_false, Bool.false_or]; rfl))
theorem c80 (Γ : Nat → PV) (a : Tm) : Gives Tryz.prog Γ 80 [.agg a.enc] (.bool a.binder) := by
  refine fn_of_awp Tryz.func80 rfl (by simp [Tryz.f80]) rfl fun H => ?_
  refine awp_seq ?_
  refine awp_run rfl (by simp only [fwA, ↓reduceIte, Nat.reduceAdd, Nat.reduceMul, Nat.reduceEqDiff, Nat.reduceLT, Nat.reduceLeDiff, reduceCtorEq] <;> rfl) ?_
  refine awp_seq ?_
  unfold Tm.binder
  by_cases h3 : a.kind = 3
  · refine awp_run rfl (by simp only [fwA, ↓reduceIte, Nat.reduceAdd, Nat.reduceMul, Nat.reduceEqDiff, Nat.reduceLT, Nat.reduceLeDiff, reduceCtorEq, fl35_0, ti3, Tm.fw, h3, decide_true] <;> rfl) ?_
    exact awp_ret (gives_end (.inl rfl) _ (by simp only [h3, decide_true, Bool.true_or]; rfl))
  by_cases h5 : a.kind = 5
  · refine awp_run rfl (by simp only [fwA, ↓reduceIte, Nat.reduceAdd, Nat.reduceMul, Nat.reduceEqDiff, Nat.reduceLT, Nat.reduceLeDiff, reduceCtorEq, fl35_0, ti3, Tm.fw, h3, h5, decide_true, decide_false] <;> rfl) ?_
    exact awp_ret (gives_end (.inl rfl) _ (by simp only [h3, h5, decide_true, decide_false, Bool.true_or, Bool.or_true]; rfl))
  refine awp_run rfl (by simp only [fwA, ↓reduceIte, Nat.reduceAdd, Nat.reduceMul, Nat.reduceEqDiff, Nat.reduceLT, Nat.reduceLeDiff, reduceCtorEq, fl35_0, ti3, Tm.fw, h3, h5, decide_false] <;> rfl) ?_
  exact awp_ret (gives_end (.inl rfl) _ (by simp only [h3, h5, decide_false, Bool.false_or]; rfl))
end Go.Proofs.YtddnigahjahkbaaGreatDoor
namespace Go.Proofs.YtddnigahjahkbaaGreatDoor
set_option linter.unusedVariables false
set_option linter.unusedSimpArgs false
set_option maxRecDepth 100000
open Go.RowKit Go.Shelf
def lays_ren : Go.Shelf.Ren := { f := fun x => match x with | 173 => 36 | 246 => 59 | 283 => 74 | 284 => 75 | 285 => 76 | 286 => 77 | 129 => 94 | 317 => 98 | 318 => 99 | 319 => 100 | 320 => 101 | 337 => 117 | 338 => 118 | n => n, t := fun x => match x with | 2 => 2 | 3 => 3 | 9 => 9 | 4 => 4 | 171 => 115 | 0 => 0 | 53 => 116 | 37 => 25 | 5 => 5 | 173 => 119 | 212 => 135 | 51 => 132 | 20 => 20 | 213 => 136 | 46 => 108 | 232 => 161 | 233 => 162 | n => n, g := fun x => match x with | 17 => 4 | 18 => 8 | 19 => 9 | n => n }
theorem lays : Go.Proofs.LaysM.n173 Tryz.prog lays_ren where
  mixed := by kernel_rfl
  f129 := Tryz.func94.trans (congrArg some (by kernel_rfl))
  f173 := Tryz.func36.trans (congrArg some (by kernel_rfl))
  f246 := Tryz.func59.trans (congrArg some (by kernel_rfl))
  f283 := Tryz.func74.trans (congrArg some (by kernel_rfl))
  f284 := Tryz.func75.trans (congrArg some (by kernel_rfl))
  f285 := Tryz.func76.trans (congrArg some (by kernel_rfl))
  f286 := Tryz.func77.trans (congrArg some (by kernel_rfl))
  f317 := Tryz.func98.trans (congrArg some (by kernel_rfl))
  f318 := Tryz.func99.trans (congrArg some (by kernel_rfl))
  f319 := Tryz.func100.trans (congrArg some (by kernel_rfl))
  f320 := Tryz.func101.trans (congrArg some (by kernel_rfl))
  f337 := Tryz.func117.trans (congrArg some (by kernel_rfl))
  f338 := Tryz.func118.trans (congrArg some (by kernel_rfl))
  t0 := Tryz.underlying0
  a0 := Tryz.isAgg0
  z0 := Tryz.sizeOf0
  v0 := Tryz.zeroValue0
  t2 := Tryz.underlying2
  a2 := Tryz.isAgg2
  z2 := Tryz.sizeOf2
  v2 := Tryz.zeroValue2
  t3 := Tryz.underlying3
  a3 := Tryz.isAgg3
  z3 := Tryz.sizeOf3
  v3 := Tryz.zeroValue3
  t4 := Tryz.underlying4
  a4 := Tryz.isAgg4
  z4 := Tryz.sizeOf4
  v4 := Tryz.zeroValue4
  t5 := Tryz.underlying5
  a5 := Tryz.isAgg5
  z5 := Tryz.sizeOf5
  v5 := Tryz.zeroValue5
  t9 := Tryz.underlying9
  a9 := Tryz.isAgg9
  z9 := Tryz.sizeOf9
  v9 := Tryz.zeroValue9
  t20 := Tryz.underlying20
  a20 := Tryz.isAgg20
  z20 := Tryz.sizeOf20
  v20 := Tryz.zeroValue20
  t37 := Tryz.underlying25
  a37 := Tryz.isAgg25
  z37 := Tryz.sizeOf25
  v37 := Tryz.zeroValue25
  t46 := Tryz.underlying108
  a46 := Tryz.isAgg108
  z46 := Tryz.sizeOf108
  v46 := Tryz.zeroValue108
  t51 := Tryz.underlying132
  a51 := Tryz.isAgg132
  z51 := Tryz.sizeOf132
  v51 := Tryz.zeroValue132
  t53 := Tryz.underlying116
  a53 := Tryz.isAgg116
  z53 := Tryz.sizeOf116
  v53 := Tryz.zeroValue116
  t171 := Tryz.underlying115
  a171 := Tryz.isAgg115
  z171 := Tryz.sizeOf115
  v171 := Tryz.zeroValue115
  t173 := Tryz.underlying119
  a173 := Tryz.isAgg119
  z173 := Tryz.sizeOf119
  v173 := Tryz.zeroValue119
  t212 := Tryz.underlying135
  a212 := Tryz.isAgg135
  z212 := Tryz.sizeOf135
  v212 := Tryz.zeroValue135
  t213 := Tryz.underlying136
  a213 := Tryz.isAgg136
  z213 := Tryz.sizeOf136
  t232 := Tryz.underlying161
  a232 := Tryz.isAgg161
  z232 := Tryz.sizeOf161
  v232 := Tryz.zeroValue161
  t233 := Tryz.underlying162
  a233 := Tryz.isAgg162
  z233 := Tryz.sizeOf162
  v233 := Tryz.zeroValue162
  g17 := by kernel_rfl
  g18 := by kernel_rfl
  g19 := by kernel_rfl
  i0 := by kernel_rfl
  i2 := by kernel_rfl
  i3 := by kernel_rfl
  i4 := by kernel_rfl
  i5 := by kernel_rfl
  i9 := by kernel_rfl
  i20 := by kernel_rfl
  i37 := by kernel_rfl
  i46 := by kernel_rfl
  i51 := by kernel_rfl
  i53 := by kernel_rfl
  i171 := by kernel_rfl
  i173 := by kernel_rfl
  i212 := by kernel_rfl
  i232 := by kernel_rfl
  i233 := by kernel_rfl
  m17 := by kernel_rfl
  m18 := by kernel_rfl
  m19 := by kernel_rfl
def joins_ren : Go.Shelf.Ren := { f := fun x => match x with | 156 => 47 | 165 => 62 | 166 => 63 | 169 => 64 | 240 => 82 | 241 => 83 | 276 => 104 | 277 => 105 | n => n, t := fun x => match x with | 31 => 43 | 9 => 9 | 3 => 3 | 4 => 4 | 0 => 0 | 20 => 20 | 72 => 95 | 76 => 99 | 70 => 93 | 37 => 25 | 75 => 98 | 127 => 122 | 164 => 138 | 5 => 5 | 80 => 101 | n => n, g := fun x => have n := x; n }
theorem joins : Go.Proofs.Lays.n156 Tryz.prog joins_ren where
  mixed := by kernel_rfl
  f156 := Tryz.func47.trans (congrArg some (by kernel_rfl))
  f165 := Tryz.func62.trans (congrArg some (by kernel_rfl))
  f166 := Tryz.func63.trans (congrArg some (by kernel_rfl))
  f169 := Tryz.func64.trans (congrArg some (by kernel_rfl))
  f240 := Tryz.func82.trans (congrArg some (by kernel_rfl))
  f241 := Tryz.func83.trans (congrArg some (by kernel_rfl))
  f276 := Tryz.func104.trans (congrArg some (by kernel_rfl))
  f277 := Tryz.func105.trans (congrArg some (by kernel_rfl))
  t0 := Tryz.underlying0
  a0 := Tryz.isAgg0
  z0 := Tryz.sizeOf0
  v0 := Tryz.zeroValue0
  t3 := Tryz.underlying3
  a3 := Tryz.isAgg3
  z3 := Tryz.sizeOf3
  v3 := Tryz.zeroValue3
  t4 := Tryz.underlying4
  a4 := Tryz.isAgg4
  z4 := Tryz.sizeOf4
  v4 := Tryz.zeroValue4
  t9 := Tryz.underlying9
  a9 := Tryz.isAgg9
  z9 := Tryz.sizeOf9
  v9 := Tryz.zeroValue9
  t20 := Tryz.underlying20
  a20 := Tryz.isAgg20
  z20 := Tryz.sizeOf20
  v20 := Tryz.zeroValue20
  t31 := Tryz.underlying43
  a31 := Tryz.isAgg43
  z31 := Tryz.sizeOf43
  v31 := Tryz.zeroValue43
  t37 := Tryz.underlying25
  a37 := Tryz.isAgg25
  z37 := Tryz.sizeOf25
  v37 := Tryz.zeroValue25
  t70 := Tryz.underlying93
  a70 := Tryz.isAgg93
  z70 := Tryz.sizeOf93
  v70 := Tryz.zeroValue93
  t72 := Tryz.underlying95
  a72 := Tryz.isAgg95
  z72 := Tryz.sizeOf95
  v72 := Tryz.zeroValue95
  t75 := Tryz.underlying98
  a75 := Tryz.isAgg98
  z75 := Tryz.sizeOf98
  v75 := Tryz.zeroValue98
  t76 := Tryz.underlying99
  a76 := Tryz.isAgg99
  z76 := Tryz.sizeOf99
  v76 := Tryz.zeroValue99
  t127 := Tryz.underlying122
  a127 := Tryz.isAgg122
  z127 := Tryz.sizeOf122
  v127 := Tryz.zeroValue122
  t164 := Tryz.underlying138
  a164 := Tryz.isAgg138
  z164 := Tryz.sizeOf138
  v164 := Tryz.zeroValue138
def parses_ren : Go.Shelf.Ren := { f := fun x => match x with | 174 => 70 | 247 => 95 | 245 => 96 | 287 => 112 | 279 => 113 | 280 => 114 | 281 => 115 | 282 => 116 | 321 => 120 | 322 => 121 | 316 => 122 | 171 => 124 | 205 => 123 | 243 => 125 | 246 => 59 | 283 => 74 | 284 => 75 | 285 => 76 | 286 => 77 | 129 => 94 | 317 => 98 | 318 => 99 | 319 => 100 | 320 => 101 | 337 => 117 | 338 => 118 | n => n, t := fun x => match x with | 9 => 9 | 3 => 3 | 2 => 2 | 75 => 98 | 85 => 109 | 4 => 4 | 167 => 147 | 5 => 5 | 53 => 116 | 175 => 148 | 46 => 108 | 168 => 150 | 37 => 25 | 0 => 0 | 210 => 159 | 21 => 21 | 127 => 122 | 145 => 165 | 143 => 163 | 171 => 115 | 173 => 119 | 212 => 135 | 51 => 132 | 20 => 20 | 213 => 136 | 232 => 161 | 233 => 162 | 80 => 101 | n => n, g := fun x => match x with | 15 => 6 | 16 => 7 | 17 => 4 | 18 => 8 | 19 => 9 | n => n }
theorem parses : Go.Proofs.LaysC.n174 Tryz.prog parses_ren where
  mixed := by kernel_rfl
  f129 := Tryz.func94.trans (congrArg some (by kernel_rfl))
  f171 := Tryz.func124.trans (congrArg some (by kernel_rfl))
  f174 := Tryz.func70.trans (congrArg some (by kernel_rfl))
  f205 := Tryz.func123.trans (congrArg some (by kernel_rfl))
  f243 := Tryz.func125.trans (congrArg some (by kernel_rfl))
  f245 := Tryz.func96.trans (congrArg some (by kernel_rfl))
  f246 := Tryz.func59.trans (congrArg some (by kernel_rfl))
  f247 := Tryz.func95.trans (congrArg some (by kernel_rfl))
  f279 := Tryz.func113.trans (congrArg some (by kernel_rfl))
  f280 := Tryz.func114.trans (congrArg some (by kernel_rfl))
  f281 := Tryz.func115.trans (congrArg some (by kernel_rfl))
  f282 := Tryz.func116.trans (congrArg some (by kernel_rfl))
  f283 := Tryz.func74.trans (congrArg some (by kernel_rfl))
  f284 := Tryz.func75.trans (congrArg some (by kernel_rfl))
  f285 := Tryz.func76.trans (congrArg some (by kernel_rfl))
  f286 := Tryz.func77.trans (congrArg some (by kernel_rfl))
  f287 := Tryz.func112.trans (congrArg some (by kernel_rfl))
  f316 := Tryz.func122.trans (congrArg some (by kernel_rfl))
  f317 := Tryz.func98.trans (congrArg some (by kernel_rfl))
  f318 := Tryz.func99.trans (congrArg some (by kernel_rfl))
  f319 := Tryz.func100.trans (congrArg some (by kernel_rfl))
  f320 := Tryz.func101.trans (congrArg some (by kernel_rfl))
  f321 := Tryz.func120.trans (congrArg some (by kernel_rfl))
  f322 := Tryz.func121.trans (congrArg some (by kernel_rfl))
  f337 := Tryz.func117.trans (congrArg some (by kernel_rfl))
  f338 := Tryz.func118.trans (congrArg some (by kernel_rfl))
  t0 := Tryz.underlying0
  a0 := Tryz.isAgg0
  z0 := Tryz.sizeOf0
  v0 := Tryz.zeroValue0
  t2 := Tryz.underlying2
  a2 := Tryz.isAgg2
  z2 := Tryz.sizeOf2
  v2 := Tryz.zeroValue2
  t3 := Tryz.underlying3
  a3 := Tryz.isAgg3
  z3 := Tryz.sizeOf3
  v3 := Tryz.zeroValue3
  t4 := Tryz.underlying4
  a4 := Tryz.isAgg4
  z4 := Tryz.sizeOf4
  v4 := Tryz.zeroValue4
  t5 := Tryz.underlying5
  a5 := Tryz.isAgg5
  z5 := Tryz.sizeOf5
  v5 := Tryz.zeroValue5
  t9 := Tryz.underlying9
  a9 := Tryz.isAgg9
  z9 := Tryz.sizeOf9
  v9 := Tryz.zeroValue9
  t20 := Tryz.underlying20
  a20 := Tryz.isAgg20
  z20 := Tryz.sizeOf20
  v20 := Tryz.zeroValue20
  t21 := Tryz.underlying21
  a21 := Tryz.isAgg21
  z21 := Tryz.sizeOf21
  v21 := Tryz.zeroValue21
  t37 := Tryz.underlying25
  a37 := Tryz.isAgg25
  z37 := Tryz.sizeOf25
  v37 := Tryz.zeroValue25
  t46 := Tryz.underlying108
  a46 := Tryz.isAgg108
  z46 := Tryz.sizeOf108
  v46 := Tryz.zeroValue108
  t51 := Tryz.underlying132
  a51 := Tryz.isAgg132
  z51 := Tryz.sizeOf132
  v51 := Tryz.zeroValue132
  t53 := Tryz.underlying116
  a53 := Tryz.isAgg116
  z53 := Tryz.sizeOf116
  v53 := Tryz.zeroValue116
  t75 := Tryz.underlying98
  a75 := Tryz.isAgg98
  z75 := Tryz.sizeOf98
  v75 := Tryz.zeroValue98
  t85 := Tryz.underlying109
  a85 := Tryz.isAgg109
  z85 := Tryz.sizeOf109
  v85 := Tryz.zeroValue109
  t127 := Tryz.underlying122
  a127 := Tryz.isAgg122
  z127 := Tryz.sizeOf122
  v127 := Tryz.zeroValue122
  t143 := Tryz.underlying163
  a143 := Tryz.isAgg163
  z143 := Tryz.sizeOf163
  v143 := Tryz.zeroValue163
  t145 := Tryz.underlying165
  a145 := Tryz.isAgg165
  z145 := Tryz.sizeOf165
  v145 := Tryz.zeroValue165
  t167 := Tryz.underlying147
  a167 := Tryz.isAgg147
  z167 := Tryz.sizeOf147
  v167 := Tryz.zeroValue147
  t168 := Tryz.underlying150
  a168 := Tryz.isAgg150
  z168 := Tryz.sizeOf150
  v168 := Tryz.zeroValue150
  t171 := Tryz.underlying115
  a171 := Tryz.isAgg115
  z171 := Tryz.sizeOf115
  v171 := Tryz.zeroValue115
  t173 := Tryz.underlying119
  a173 := Tryz.isAgg119
  z173 := Tryz.sizeOf119
  v173 := Tryz.zeroValue119
  t175 := Tryz.underlying148
  a175 := Tryz.isAgg148
  z175 := Tryz.sizeOf148
  v175 := Tryz.zeroValue148
  t210 := Tryz.underlying159
  a210 := Tryz.isAgg159
  z210 := Tryz.sizeOf159
  v210 := Tryz.zeroValue159
  t212 := Tryz.underlying135
  a212 := Tryz.isAgg135
  z212 := Tryz.sizeOf135
  v212 := Tryz.zeroValue135
  t213 := Tryz.underlying136
  a213 := Tryz.isAgg136
  z213 := Tryz.sizeOf136
  t232 := Tryz.underlying161
  a232 := Tryz.isAgg161
  z232 := Tryz.sizeOf161
  v232 := Tryz.zeroValue161
  t233 := Tryz.underlying162
  a233 := Tryz.isAgg162
  z233 := Tryz.sizeOf162
  v233 := Tryz.zeroValue162
  g15 := by kernel_rfl
  g16 := by kernel_rfl
  g17 := by kernel_rfl
  g18 := by kernel_rfl
  g19 := by kernel_rfl
  t80 := Tryz.underlying101
  a80 := Tryz.isAgg101
  z80 := Tryz.sizeOf101
  v80 := Tryz.zeroValue101
  i0 := by kernel_rfl
  i2 := by kernel_rfl
  i3 := by kernel_rfl
  i4 := by kernel_rfl
  i5 := by kernel_rfl
  i9 := by kernel_rfl
  i20 := by kernel_rfl
  i21 := by kernel_rfl
  i37 := by kernel_rfl
  i46 := by kernel_rfl
  i51 := by kernel_rfl
  i53 := by kernel_rfl
  i75 := by kernel_rfl
  i80 := by kernel_rfl
  i85 := by kernel_rfl
  i127 := by kernel_rfl
  i143 := by kernel_rfl
  i145 := by kernel_rfl
  i167 := by kernel_rfl
  i168 := by kernel_rfl
  i171 := by kernel_rfl
  i173 := by kernel_rfl
  i175 := by kernel_rfl
  i210 := by kernel_rfl
  i212 := by kernel_rfl
  i232 := by kernel_rfl
  i233 := by kernel_rfl
  m15 := by kernel_rfl
  m16 := by kernel_rfl
  m17 := by kernel_rfl
  m18 := by kernel_rfl
  m19 := by kernel_rfl
  c0 := by kernel_rfl
  c2 := by kernel_rfl
  c3 := by kernel_rfl
  c4 := by kernel_rfl
  c5 := by kernel_rfl
  c9 := by kernel_rfl
  c20 := by kernel_rfl
  c21 := by kernel_rfl
  c37 := by kernel_rfl
  c46 := by kernel_rfl
  c51 := by kernel_rfl
  c53 := by kernel_rfl
  c75 := by kernel_rfl
  c80 := by kernel_rfl
  c85 := by kernel_rfl
  c127 := by kernel_rfl
  c143 := by kernel_rfl
  c145 := by kernel_rfl
  c167 := by kernel_rfl
  c168 := by kernel_rfl
  c171 := by kernel_rfl
  c173 := by kernel_rfl
  c175 := by kernel_rfl
  c210 := by kernel_rfl
  c212 := by kernel_rfl
  c213 := by kernel_rfl
  c232 := by kernel_rfl
  c233 := by kernel_rfl
theorem extra : Builder.Extra Tryz.prog joins_ren where
  sizeBuilder := by kernel_rfl
  liesBuilder := by kernel_rfl
  t5 := Tryz.underlying5
  a5 := Tryz.isAgg5
  z5 := Tryz.sizeOf5
  v5 := Tryz.zeroValue5
  infoByte := by kernel_rfl
  cellsByte := by kernel_rfl
  sizeByte := by kernel_rfl
  neB5 := by decide
end Go.Proofs.YtddnigahjahkbaaGreatDoor
namespace Go.Proofs.YtddnigahjahkbaaGreatDoor
set_option linter.unusedVariables false
set_option linter.unusedSimpArgs false
set_option maxRecDepth 100000
open Go.RowKit Fw
def letN (n : Nat) : Bool := (decide (97 ≤ n) && decide (n ≤ 122)) || (decide (65 ≤ n) && decide (n ≤ 90))
def low (n : Int) : Int := IntKind.u8.wrap ((BitVec.ofInt IntKind.u8.bits n ||| BitVec.ofInt IntKind.u8.bits 32).toNat : Int)
theorem low_all : ∀ n : Fin 256, (decide (97 ≤ low (n.val : Int)) && decide (low (n.val : Int) ≤ 122)) = letN n.val := of_decide_eq_true (by kernel_rfl)
theorem or32 (n : Int) : abin .or (.int .u8 n) (.int .u8 32) = some (.int .u8 (low n)) := rfl
theorem low_let (c : UInt8) : (decide (97 ≤ low (c.toNat : Int)) && decide (low (c.toNat : Int) ≤ 122)) = letB c := low_all ⟨c.toNat, c.toNat_lt⟩
theorem c65 (Γ : Nat → PV) (c : UInt8) : Gives Tryz.prog Γ 65 [.int .u8 (c.toNat : Int)] (.bool (letB c)) := by
  refine fn_of_awp Tryz.func65 rfl (by simp [Tryz.f65]) rfl fun H => ?_
  refine awp_seq ?_
  refine awp_run rfl (by simp only [fwA, ↓reduceIte, Nat.reduceAdd, Nat.reduceMul, Nat.reduceEqDiff, Nat.reduceLT, Nat.reduceLeDiff, reduceCtorEq] <;> rfl) ?_
  refine awp_seq ?_
  rw [← low_let c]
  by_cases h1 : 97 ≤ low (c.toNat : Int)
  · refine awp_run rfl (by simp only [fwA, ↓reduceIte, Nat.reduceAdd, Nat.reduceMul, Nat.reduceEqDiff, Nat.reduceLT, Nat.reduceLeDiff, reduceCtorEq, or32, h1, decide_true] <;> rfl) ?_
    exact awp_ret (gives_end0 (.inl rfl) (by simp only [h1, decide_true, Bool.true_and]; rfl))
  · refine awp_run rfl (by simp only [fwA, ↓reduceIte, Nat.reduceAdd, Nat.reduceMul, Nat.reduceEqDiff, Nat.reduceLT, Nat.reduceLeDiff, reduceCtorEq, or32, h1, decide_false] <;> rfl) ?_
    exact awp_ret (gives_end0 (.inl rfl) (by simp only [h1, decide_false, Bool.false_and]; rfl))
theorem nm_dec {s : List UInt8} {i : Nat} {c : UInt8} (hc : s[i]? = some c) : nmAt i c = (letB c || (decide ((i : Int) ≠ 0) && digB c)) := by
  unfold nmAt
  have : decide ((i : Int) ≠ 0) = decide (i ≠ 0) := by
    by_cases h : i = 0
    · subst h; rfl
    · rw [decide_eq_true h, decide_eq_true (by omega)]
  rw [this, Bool.and_true, Bool.and_comm (digB c)]
theorem c48 (Γ : Nat → PV) (s : List UInt8) : Gives Tryz.prog Γ 48 [.str s] (.bool (decide (nameP s))) := by
  refine fn_of_awp Tryz.func48 rfl (by simp [Tryz.f48]) rfl fun H => ?_
  refine awp_slen 0 rfl fun hlen => ?_
  refine awp_seq ?_
  refine awp_run rfl (by simp only [fwA, ↓reduceIte, Nat.reduceAdd, Nat.reduceMul, Nat.reduceEqDiff, Nat.reduceLT, Nat.reduceLeDiff, reduceCtorEq] <;> rfl) ?_
  refine awp_seq ?_
  refine awp_seq ?_
  refine awp_run rfl (by simp only [fwA, ↓reduceIte, Nat.reduceAdd, Nat.reduceMul, Nat.reduceEqDiff, Nat.reduceLT, Nat.reduceLeDiff, reduceCtorEq, un9] <;> rfl) ?_
  refine awp_block ?_
  refine awp_for [0, 6, 7] (fun i : Nat => [.str s, .int .i64 s.length, .int .i64 i]) (fun _ => H) (fun i => s.length - i) (fun i => i ≤ s.length ∧ nmPre s i) 0 rfl rfl ⟨Nat.zero_le _, fun j hj => by omega⟩ fun i hs => ?_
  obtain ⟨hi, hp⟩ := hs
  refine awp_seq ?_
  refine awp_run rfl (by simp only [fwA, ↓reduceIte, Nat.reduceAdd, Nat.reduceMul, Nat.reduceEqDiff, Nat.reduceLT, Nat.reduceLeDiff, reduceCtorEq] <;> rfl) ?_
  refine awp_seq ?_
  refine awp_cond (by simp only [fwA, ↓reduceIte, Nat.reduceAdd, Nat.reduceMul, Nat.reduceEqDiff, Nat.reduceLT, Nat.reduceLeDiff, reduceCtorEq] <;> rfl) ?_
  by_cases hc : (i : Int) < s.length
  rotate_left
  · simp only [hc, decide_false, Bool.false_eq_true, ↓reduceIte]
    refine awp_exit ?_
    have hie : i = s.length := by omega
    subst hie
    refine awp_seq ?_
    by_cases h0 : 0 < (s.length : Int)
    rotate_left
    · refine awp_run rfl (by simp only [fwA, ↓reduceIte, Nat.reduceAdd, Nat.reduceMul, Nat.reduceEqDiff, Nat.reduceLT, Nat.reduceLeDiff, reduceCtorEq, un9, h0, decide_false] <;> rfl) ?_
      exact awp_ret (gives_end0 (.inl rfl) (by rw [decide_eq_false (fun e => h0 (by have := e.1; omega))]; rfl))
    by_cases h16 : (s.length : Int) ≤ 16
    · refine awp_run rfl (by simp only [fwA, ↓reduceIte, Nat.reduceAdd, Nat.reduceMul, Nat.reduceEqDiff, Nat.reduceLT, Nat.reduceLeDiff, reduceCtorEq, un9, h0, h16, decide_true] <;> rfl) ?_
      exact awp_ret (gives_end0 (.inl rfl) (by rw [decide_eq_true (show nameP s from ⟨by omega, by omega, hp⟩)]; rfl))
    · refine awp_run rfl (by simp only [fwA, ↓reduceIte, Nat.reduceAdd, Nat.reduceMul, Nat.reduceEqDiff, Nat.reduceLT, Nat.reduceLeDiff, reduceCtorEq, un9, h0, h16, decide_true, decide_false] <;> rfl) ?_
      exact awp_ret (gives_end0 (.inl rfl) (by rw [decide_eq_false (fun e => h16 (by have := e.2.1; omega))]; rfl))
  simp only [hc, decide_true, ↓reduceIte]
  refine awp_skip ?_
  have hia : i < s.length := by omega
  have gc : s[i]? = some s[i] := List.getElem?_eq_getElem hia
  have hnd := nm_dec gc
  have hsuc := nmPre_succ gc
  have hnot : nmAt i s[i] = false → ¬ nameP s := fun h e => by have := e.2.2 i hia _ gc; rw [h] at this; cases this
  generalize s[i] = c at gc hnd hsuc hnot
  have h45 := c65 Γ c
  generalize letB c = bl at hnd h45
  refine awp_seq ?_
  refine awp_block ?_
  refine awp_seq ?_
  refine awp_run rfl (by simp only [fwA, ↓reduceIte, Nat.reduceAdd, Nat.reduceMul, Nat.reduceEqDiff, Nat.reduceLT, Nat.reduceLeDiff, reduceCtorEq] <;> rfl) ?_
  refine awp_seq ?_
  refine AWP.mono (Q := fun e A' H' D' => e = .normal ∧ akeep [0, 3, 4, 6, 7] A' = [(0, .str s), (3, .int .i64 i), (4, .bool (digB c)), (6, .int .i64 s.length), (7, .int .i64 i)] ∧ H' = H ∧ D' = []) ?_ fun e A' H' D' hq => ?_
  · unfold digB
    by_cases h1 : 48 ≤ (c.toNat : Int)
    · have h1' : 48 ≤ c.toNat := by omega
      refine awp_run rfl (by simp only [fwA, ↓reduceIte, Nat.reduceAdd, Nat.reduceMul, Nat.reduceEqDiff, Nat.reduceLT, Nat.reduceLeDiff, reduceCtorEq, un9, gc, Int.toNat_natCast, Int.natCast_nonneg, h1, decide_true] <;> rfl) ⟨rfl, ?_, rfl, rfl⟩
      have : decide ((c.toNat : Int) ≤ 57) = decide (c.toNat ≤ 57) := decide_eq_decide.2 (by omega)
      simp only [akeep, alook, aput, ev, h1', decide_true, Bool.true_and, ← this] <;> rfl
    · have h1' : ¬ 48 ≤ c.toNat := by omega
      refine awp_run rfl (by simp only [fwA, ↓reduceIte, Nat.reduceAdd, Nat.reduceMul, Nat.reduceEqDiff, Nat.reduceLT, Nat.reduceLeDiff, reduceCtorEq, un9, gc, Int.toNat_natCast, Int.natCast_nonneg, h1, decide_false] <;> rfl) ⟨rfl, ?_, rfl, rfl⟩
      simp only [akeep, alook, aput, ev, h1', decide_false, Bool.false_and] <;> rfl
  obtain ⟨rfl, hA, rfl, rfl⟩ := hq
  refine awp_keep _ hA ?_
  generalize digB c = bd at hnd ⊢
  refine awp_seq ?_
  refine awp_region rfl ?_
  refine aops_run 3 (by simp only [fwA, ↓reduceIte, Nat.reduceAdd, Nat.reduceMul, Nat.reduceEqDiff, Nat.reduceLT, Nat.reduceLeDiff, reduceCtorEq, un9, gc, Int.toNat_natCast, Int.natCast_nonneg] <;> rfl) ?_
  refine aops_fn rfl rfl rfl en65 h45 ?_
  have fin : nmAt i c = true → nmPre s (i + 1) := fun h => hsuc.2 ⟨hp, h⟩
  cases bl with
  | true =>
    refine aops_run 9 (by simp only [fwA, ↓reduceIte, Nat.reduceAdd, Nat.reduceMul, Nat.reduceEqDiff, Nat.reduceLT, Nat.reduceLeDiff, reduceCtorEq] <;> rfl) ?_
    refine awp_cond (b := false) (by simp only [fwA, ↓reduceIte, Nat.reduceAdd, Nat.reduceMul, Nat.reduceEqDiff, Nat.reduceLT, Nat.reduceLeDiff, reduceCtorEq] <;> rfl) (awp_skip ?_)
    refine awp_run rfl (by simp only [fwA, ↓reduceIte, Nat.reduceAdd, Nat.reduceMul, Nat.reduceEqDiff, Nat.reduceLT, Nat.reduceLeDiff, reduceCtorEq] <;> rfl) ?_
    exact ⟨i + 1, by omega, ⟨by omega, fin (by rw [hnd]; rfl)⟩, by rw [wrapS i (by omega)]; rfl, rfl, rfl⟩
  | false =>
    by_cases hz : (i : Int) = 0
    · refine aops_run 9 (by simp only [fwA, ↓reduceIte, Nat.reduceAdd, Nat.reduceMul, Nat.reduceEqDiff, Nat.reduceLT, Nat.reduceLeDiff, reduceCtorEq, hz, decide_true] <;> rfl) ?_
      refine awp_cond (b := true) (by simp only [fwA, ↓reduceIte, Nat.reduceAdd, Nat.reduceMul, Nat.reduceEqDiff, Nat.reduceLT, Nat.reduceLeDiff, reduceCtorEq] <;> rfl) ?_
      refine awp_seq (awp_run rfl (by simp only [fwA, ↓reduceIte, Nat.reduceAdd, Nat.reduceMul, Nat.reduceEqDiff, Nat.reduceLT, Nat.reduceLeDiff, reduceCtorEq] <;> rfl) (awp_ret ?_))
      exact gives_end0 (.inl rfl) (by rw [decide_eq_false (hnot (by rw [hnd, decide_eq_false (by simpa using hz)]; rfl))]; rfl)
    · cases bd with
      | true =>
        refine aops_run 9 (by simp only [fwA, ↓reduceIte, Nat.reduceAdd, Nat.reduceMul, Nat.reduceEqDiff, Nat.reduceLT, Nat.reduceLeDiff, reduceCtorEq, hz, decide_false] <;> rfl) ?_
        refine awp_cond (b := false) (by simp only [fwA, ↓reduceIte, Nat.reduceAdd, Nat.reduceMul, Nat.reduceEqDiff, Nat.reduceLT, Nat.reduceLeDiff, reduceCtorEq] <;> rfl) (awp_skip ?_)
        refine awp_run rfl (by simp only [fwA, ↓reduceIte, Nat.reduceAdd, Nat.reduceMul, Nat.reduceEqDiff, Nat.reduceLT, Nat.reduceLeDiff, reduceCtorEq] <;> rfl) ?_
        exact ⟨i + 1, by omega, ⟨by omega, fin (by rw [hnd, decide_eq_true hz]; rfl)⟩, by rw [wrapS i (by omega)]; rfl, rfl, rfl⟩
      | false =>
        refine aops_run 9 (by simp only [fwA, ↓reduceIte, Nat.reduceAdd, Nat.reduceMul, Nat.reduceEqDiff, Nat.reduceLT, Nat.reduceLeDiff, reduceCtorEq, hz, decide_false] <;> rfl) ?_
        refine awp_cond (b := true) (by simp only [fwA, ↓reduceIte, Nat.reduceAdd, Nat.reduceMul, Nat.reduceEqDiff, Nat.reduceLT, Nat.reduceLeDiff, reduceCtorEq] <;> rfl) ?_
        refine awp_seq (awp_run rfl (by simp only [fwA, ↓reduceIte, Nat.reduceAdd, Nat.reduceMul, Nat.reduceEqDiff, Nat.reduceLT, Nat.reduceLeDiff, reduceCtorEq] <;> rfl) (awp_ret ?_))
        exact gives_end0 (.inl rfl) (by rw [decide_eq_false (hnot (by rw [hnd]; simp))]; rfl)
theorem c102 (Γ : Nat → PV) (s : List UInt8) : Gives Tryz.prog Γ 102 [.str s] (.bool (decide (nameP s))) := by
  refine fn_of_awp Tryz.func102 rfl (by simp [Tryz.f102]) rfl fun H => ?_
  refine awp_seq ?_
  refine awp_run rfl (by simp only [fwA, ↓reduceIte, Nat.reduceAdd, Nat.reduceMul, Nat.reduceEqDiff, Nat.reduceLT, Nat.reduceLeDiff, reduceCtorEq] <;> rfl) ?_
  refine awp_seq ?_
  refine awp_seq ?_
  by_cases h1 : (s.length : Int) < 1
  · refine awp_run rfl (by simp only [fwA, ↓reduceIte, Nat.reduceAdd, Nat.reduceMul, Nat.reduceEqDiff, Nat.reduceLT, Nat.reduceLeDiff, reduceCtorEq, un9, h1, decide_true] <;> rfl) ?_
    refine awp_cond (b := true) (by simp only [fwA, ↓reduceIte, Nat.reduceAdd, Nat.reduceMul, Nat.reduceEqDiff, Nat.reduceLT, Nat.reduceLeDiff, reduceCtorEq] <;> rfl) ?_
    refine awp_seq (awp_run rfl (by simp only [fwA, ↓reduceIte, Nat.reduceAdd, Nat.reduceMul, Nat.reduceEqDiff, Nat.reduceLT, Nat.reduceLeDiff, reduceCtorEq] <;> rfl) (awp_ret ?_))
    exact gives_end0 (.inl rfl) (by rw [decide_eq_false (fun e => by have := e.1; omega)]; rfl)
  by_cases h16 : 16 < (s.length : Int)
  · refine awp_run rfl (by simp only [fwA, ↓reduceIte, Nat.reduceAdd, Nat.reduceMul, Nat.reduceEqDiff, Nat.reduceLT, Nat.reduceLeDiff, reduceCtorEq, un9, h1, h16, decide_true, decide_false] <;> rfl) ?_
    refine awp_cond (b := true) (by simp only [fwA, ↓reduceIte, Nat.reduceAdd, Nat.reduceMul, Nat.reduceEqDiff, Nat.reduceLT, Nat.reduceLeDiff, reduceCtorEq] <;> rfl) ?_
    refine awp_seq (awp_run rfl (by simp only [fwA, ↓reduceIte, Nat.reduceAdd, Nat.reduceMul, Nat.reduceEqDiff, Nat.reduceLT, Nat.reduceLeDiff, reduceCtorEq] <;> rfl) (awp_ret ?_))
    exact gives_end0 (.inl rfl) (by rw [decide_eq_false (fun e => by have := e.2.1; omega)]; rfl)
  refine awp_run rfl (by simp only [fwA, ↓reduceIte, Nat.reduceAdd, Nat.reduceMul, Nat.reduceEqDiff, Nat.reduceLT, Nat.reduceLeDiff, reduceCtorEq, un9, h1, h16, decide_true, decide_false] <;> rfl) ?_
  refine awp_cond (b := false) (by simp only [fwA, ↓reduceIte, Nat.reduceAdd, Nat.reduceMul, Nat.reduceEqDiff, Nat.reduceLT, Nat.reduceLeDiff, reduceCtorEq] <;> rfl) (awp_skip ?_)
  refine awp_seq ?_
  refine awp_seq ?_
  refine awp_run rfl (by simp only [fwA, ↓reduceIte, Nat.reduceAdd, Nat.reduceMul, Nat.reduceEqDiff, Nat.reduceLT, Nat.reduceLeDiff, reduceCtorEq] <;> rfl) ?_
  refine awp_block ?_
  refine awp_for [0, 3] (fun i : Nat => [.str s, .int .i64 i]) (fun _ => H) (fun i => s.length - i) (fun i => i ≤ s.length ∧ nmPre s i) 0 rfl rfl ⟨Nat.zero_le _, fun j hj => by omega⟩ fun i hs => ?_
  obtain ⟨hi, hp⟩ := hs
  refine awp_seq ?_
  refine awp_seq ?_
  refine awp_run rfl (by simp only [fwA, ↓reduceIte, Nat.reduceAdd, Nat.reduceMul, Nat.reduceEqDiff, Nat.reduceLT, Nat.reduceLeDiff, reduceCtorEq, un9] <;> rfl) ?_
  refine awp_cond (by simp only [fwA, ↓reduceIte, Nat.reduceAdd, Nat.reduceMul, Nat.reduceEqDiff, Nat.reduceLT, Nat.reduceLeDiff, reduceCtorEq] <;> rfl) ?_
  by_cases hc : (i : Int) < s.length
  rotate_left
  · simp only [hc, decide_false, Bool.false_eq_true, ↓reduceIte]
    refine awp_exit ?_
    have hie : i = s.length := by omega
    subst hie
    refine awp_seq (awp_run rfl (by simp only [fwA, ↓reduceIte, Nat.reduceAdd, Nat.reduceMul, Nat.reduceEqDiff, Nat.reduceLT, Nat.reduceLeDiff, reduceCtorEq] <;> rfl) (awp_ret ?_))
    exact gives_end0 (.inl rfl) (by rw [decide_eq_true (show nameP s from ⟨by omega, by omega, hp⟩)]; rfl)
  simp only [hc, decide_true, ↓reduceIte]
  refine awp_skip ?_
  have hia : i < s.length := by omega
  have gc : s[i]? = some s[i] := List.getElem?_eq_getElem hia
  have hnd := nm_dec gc
  have hsuc := nmPre_succ gc
  have hnot : nmAt i s[i] = false → ¬ nameP s := fun h e => by have := e.2.2 i hia _ gc; rw [h] at this; cases this
  generalize s[i] = c at gc hnd hsuc hnot
  refine awp_seq ?_
  refine awp_block ?_
  refine awp_seq ?_
  refine AWP.mono (Q := fun e A' H' D' => e = .normal ∧ akeep [0, 3, 4] A' = [(0, .str s), (3, .int .i64 i), (4, .bool (letB c))] ∧ H' = H ∧ D' = []) ?_ fun e A' H' D' hq => ?_
  · have e1 : decide (97 ≤ (c.toNat : Int)) = decide (97 ≤ c.toNat) := decide_eq_decide.2 (by omega)
    have e2 : decide ((c.toNat : Int) ≤ 122) = decide (c.toNat ≤ 122) := decide_eq_decide.2 (by omega)
    have e3 : decide (65 ≤ (c.toNat : Int)) = decide (65 ≤ c.toNat) := decide_eq_decide.2 (by omega)
    have e4 : decide ((c.toNat : Int) ≤ 90) = decide (c.toNat ≤ 90) := decide_eq_decide.2 (by omega)
    unfold letB
    rw [← e1, ← e2, ← e3, ← e4]
    by_cases k1 : 97 ≤ (c.toNat : Int) <;> by_cases k2 : (c.toNat : Int) ≤ 122 <;> by_cases k3 : 65 ≤ (c.toNat : Int) <;> by_cases k4 : (c.toNat : Int) ≤ 90 <;>
      exact awp_run rfl (by simp only [fwA, ↓reduceIte, Nat.reduceAdd, Nat.reduceMul, Nat.reduceEqDiff, Nat.reduceLT, Nat.reduceLeDiff, reduceCtorEq, un9, gc, Int.toNat_natCast, Int.natCast_nonneg, k1, k2, k3, k4, decide_true, decide_false] <;> rfl) ⟨rfl, by simp only [akeep, alook, aput, ev, k1, k2, k3, k4, decide_true, decide_false, Bool.true_and, Bool.false_and, Bool.and_true, Bool.and_false, Bool.or_true, Bool.true_or, Bool.or_false, Bool.false_or] <;> rfl, rfl, rfl⟩
  obtain ⟨rfl, hA, rfl, rfl⟩ := hq
  refine awp_keep _ hA ?_
  refine awp_seq ?_
  refine AWP.mono (Q := fun e A' H'' D' => e = .normal ∧ akeep [0, 3, 4, 5] A' = [(0, .str s), (3, .int .i64 i), (4, .bool (letB c)), (5, .bool (digB c))] ∧ H'' = H' ∧ D' = []) ?_ fun e A' H'' D' hq => ?_
  · have e1 : decide (48 ≤ (c.toNat : Int)) = decide (48 ≤ c.toNat) := decide_eq_decide.2 (by omega)
    have e2 : decide ((c.toNat : Int) ≤ 57) = decide (c.toNat ≤ 57) := decide_eq_decide.2 (by omega)
    unfold digB
    rw [← e1, ← e2]
    by_cases k1 : 48 ≤ (c.toNat : Int) <;> by_cases k2 : (c.toNat : Int) ≤ 57 <;>
      exact awp_run rfl (by simp only [fwA, ↓reduceIte, Nat.reduceAdd, Nat.reduceMul, Nat.reduceEqDiff, Nat.reduceLT, Nat.reduceLeDiff, reduceCtorEq, un9, gc, Int.toNat_natCast, Int.natCast_nonneg, k1, k2, decide_true, decide_false] <;> rfl) ⟨rfl, by simp only [akeep, alook, aput, ev, k1, k2, decide_true, decide_false, Bool.true_and, Bool.false_and, Bool.and_true, Bool.and_false] <;> rfl, rfl, rfl⟩
  obtain ⟨rfl, hA, rfl, rfl⟩ := hq
  refine awp_keep _ hA ?_
  generalize letB c = bl at hnd ⊢
  generalize digB c = bd at hnd ⊢
  have fin : nmAt i c = true → nmPre s (i + 1) := fun h => hsuc.2 ⟨hp, h⟩
  refine awp_seq ?_
  cases bl with
  | true =>
    refine awp_run rfl (by simp only [fwA, ↓reduceIte, Nat.reduceAdd, Nat.reduceMul, Nat.reduceEqDiff, Nat.reduceLT, Nat.reduceLeDiff, reduceCtorEq] <;> rfl) ?_
    refine awp_cond (b := false) (by simp only [fwA, ↓reduceIte, Nat.reduceAdd, Nat.reduceMul, Nat.reduceEqDiff, Nat.reduceLT, Nat.reduceLeDiff, reduceCtorEq] <;> rfl) (awp_skip ?_)
    refine awp_run rfl (by simp only [fwA, ↓reduceIte, Nat.reduceAdd, Nat.reduceMul, Nat.reduceEqDiff, Nat.reduceLT, Nat.reduceLeDiff, reduceCtorEq] <;> rfl) ?_
    exact ⟨i + 1, by omega, ⟨by omega, fin (by rw [hnd]; rfl)⟩, by rw [wrapS i (by omega)]; rfl, rfl, rfl⟩
  | false =>
    by_cases hz : (i : Int) = 0
    · refine awp_run rfl (by simp only [fwA, ↓reduceIte, Nat.reduceAdd, Nat.reduceMul, Nat.reduceEqDiff, Nat.reduceLT, Nat.reduceLeDiff, reduceCtorEq, hz, decide_true] <;> rfl) ?_
      refine awp_cond (b := true) (by simp only [fwA, ↓reduceIte, Nat.reduceAdd, Nat.reduceMul, Nat.reduceEqDiff, Nat.reduceLT, Nat.reduceLeDiff, reduceCtorEq] <;> rfl) ?_
      refine awp_seq (awp_run rfl (by simp only [fwA, ↓reduceIte, Nat.reduceAdd, Nat.reduceMul, Nat.reduceEqDiff, Nat.reduceLT, Nat.reduceLeDiff, reduceCtorEq] <;> rfl) (awp_ret ?_))
      exact gives_end0 (.inl rfl) (by rw [decide_eq_false (hnot (by rw [hnd, decide_eq_false (by simpa using hz)]; rfl))]; rfl)
    · cases bd with
      | true =>
        refine awp_run rfl (by simp only [fwA, ↓reduceIte, Nat.reduceAdd, Nat.reduceMul, Nat.reduceEqDiff, Nat.reduceLT, Nat.reduceLeDiff, reduceCtorEq, hz, decide_false] <;> rfl) ?_
        refine awp_cond (b := false) (by simp only [fwA, ↓reduceIte, Nat.reduceAdd, Nat.reduceMul, Nat.reduceEqDiff, Nat.reduceLT, Nat.reduceLeDiff, reduceCtorEq] <;> rfl) (awp_skip ?_)
        refine awp_run rfl (by simp only [fwA, ↓reduceIte, Nat.reduceAdd, Nat.reduceMul, Nat.reduceEqDiff, Nat.reduceLT, Nat.reduceLeDiff, reduceCtorEq] <;> rfl) ?_
        exact ⟨i + 1, by omega, ⟨by omega, fin (by rw [hnd, decide_eq_true hz]; rfl)⟩, by rw [wrapS i (by omega)]; rfl, rfl, rfl⟩
      | false =>
        refine awp_run rfl (by simp only [fwA, ↓reduceIte, Nat.reduceAdd, Nat.reduceMul, Nat.reduceEqDiff, Nat.reduceLT, Nat.reduceLeDiff, reduceCtorEq, hz, decide_false] <;> rfl) ?_
        refine awp_cond (b := true) (by simp only [fwA, ↓reduceIte, Nat.reduceAdd, Nat.reduceMul, Nat.reduceEqDiff, Nat.reduceLT, Nat.reduceLeDiff, reduceCtorEq] <;> rfl) ?_
        refine awp_seq (awp_run rfl (by simp only [fwA, ↓reduceIte, Nat.reduceAdd, Nat.reduceMul, Nat.reduceEqDiff, Nat.reduceLT, Nat.reduceLeDiff, reduceCtorEq] <;> rfl) (awp_ret ?_))
        exact gives_end0 (.inl rfl) (by rw [decide_eq_false (hnot (by rw [hnd]; simp))]; rfl)
def idxS (fr : List (List UInt8)) (a : List UInt8) : Int := match fr.findIdx? (fun b => decide (b = a)) with
  | some k => k
  | none => -1
theorem idxS_none {fr : List (List UInt8)} {a : List UInt8} (h : ∀ j, j < fr.length → fr[j]? ≠ some a) : idxS fr a = -1 := by
  unfold idxS
  have : fr.findIdx? (fun b => decide (b = a)) = none := by
    rw [List.findIdx?_eq_none_iff]
    intro x hx
    obtain ⟨j, hj⟩ := List.getElem?_of_mem hx
    have := h j (List.getElem?_eq_some_iff.1 hj).1
    rw [hj] at this
    simpa using this
  rw [this]
theorem idxS_some {fr : List (List UInt8)} {a : List UInt8} {i : Nat} (h : ∀ j, j < i → fr[j]? ≠ some a) (hi : fr[i]? = some a) : idxS fr a = i := by
  unfold idxS
  have : fr.findIdx? (fun b => decide (b = a)) = some i := by
    obtain ⟨h1, h2⟩ := List.getElem?_eq_some_iff.1 hi
    rw [List.findIdx?_eq_some_iff_getElem]
    refine ⟨h1, by simp [h2], fun j hj => ?_⟩
    have := h j hj
    rw [List.getElem?_eq_getElem (by omega)] at this
    simpa using this
  rw [this]
theorem idxS_mem (fr : List (List UInt8)) (a : List UInt8) : decide (0 ≤ idxS fr a) = decide (a ∈ fr) := by
  unfold idxS
  cases h : fr.findIdx? (fun b => decide (b = a)) with
  | none =>
    rw [List.findIdx?_eq_none_iff] at h
    exact decide_eq_decide.2 ⟨fun h => absurd h (by decide), fun hm => by simpa using h a hm⟩
  | some k =>
    obtain ⟨h1, h2, _⟩ := List.findIdx?_eq_some_iff_getElem.1 h
    have : fr[k] = a := by simpa using h2
    exact decide_eq_decide.2 ⟨fun _ => this ▸ List.getElem_mem h1, fun _ => Int.natCast_nonneg _⟩
theorem c66 (Γ : Nat → PV) (fr : List (List UInt8)) (f : Bool) (a : List UInt8) : Gives Tryz.prog Γ 66 [.vec (fr.map S1) f, .str a] (.int .i64 (idxS fr a)) := by
  refine fn_of_awp Tryz.func66 rfl (by simp [Tryz.f66]) rfl fun H => ?_
  refine awp_vlen 0 rfl fun hlen => ?_
  rw [List.length_map] at hlen
  refine awp_seq ?_
  refine awp_run rfl (by simp only [fwA, ↓reduceIte, Nat.reduceAdd, Nat.reduceMul, Nat.reduceEqDiff, Nat.reduceLT, Nat.reduceLeDiff, reduceCtorEq] <;> rfl) ?_
  refine awp_seq ?_
  refine awp_seq ?_
  refine awp_run rfl (by simp only [fwA, ↓reduceIte, Nat.reduceAdd, Nat.reduceMul, Nat.reduceEqDiff, Nat.reduceLT, Nat.reduceLeDiff, reduceCtorEq, un43, List.length_map] <;> rfl) ?_
  refine awp_block ?_
  refine awp_for [0, 1, 7, 8] (fun i : Nat => [.vec (fr.map S1) f, .str a, .int .i64 fr.length, .int .i64 (i : Int)]) (fun _ => H) (fun i => fr.length - i) (fun i => i ≤ fr.length ∧ ∀ j, j < i → fr[j]? ≠ some a) 0 rfl rfl ⟨Nat.zero_le _, fun j hj => by omega⟩ fun i hs => ?_
  obtain ⟨hi, hno⟩ := hs
  refine awp_seq ?_
  refine awp_run rfl (by simp only [fwA, ↓reduceIte, Nat.reduceAdd, Nat.reduceMul, Nat.reduceEqDiff, Nat.reduceLT, Nat.reduceLeDiff, reduceCtorEq] <;> rfl) ?_
  refine awp_seq ?_
  refine awp_cond (by simp only [fwA, ↓reduceIte, Nat.reduceAdd, Nat.reduceMul, Nat.reduceEqDiff, Nat.reduceLT, Nat.reduceLeDiff, reduceCtorEq] <;> rfl) ?_
  by_cases hc : (i : Int) < fr.length
  rotate_left
  · simp only [hc, decide_false, Bool.false_eq_true, ↓reduceIte]
    refine awp_exit ?_
    refine awp_seq (awp_run rfl (by simp only [fwA, ↓reduceIte, Nat.reduceAdd, Nat.reduceMul, Nat.reduceEqDiff, Nat.reduceLT, Nat.reduceLeDiff, reduceCtorEq] <;> rfl) (awp_ret ?_))
    have hi' : i = fr.length := by omega
    rw [hi'] at hno
    exact gives_end0 (.inl rfl) (by rw [idxS_none hno]; rfl)
  simp only [hc, decide_true, ↓reduceIte]
  refine awp_skip ?_
  have hia : i < fr.length := by omega
  have ga : fr[i]? = some fr[i] := List.getElem?_eq_getElem hia
  refine awp_seq ?_
  refine awp_block ?_
  refine awp_seq ?_
  refine awp_run rfl (by simp only [fwA, ↓reduceIte, Nat.reduceAdd, Nat.reduceMul, Nat.reduceEqDiff, Nat.reduceLT, Nat.reduceLeDiff, reduceCtorEq] <;> rfl) ?_
  refine awp_seq ?_
  refine awp_run rfl (by simp only [fwA, ↓reduceIte, Nat.reduceAdd, Nat.reduceMul, Nat.reduceEqDiff, Nat.reduceLT, Nat.reduceLeDiff, reduceCtorEq, el43, ti9, List.getElem?_map, ga, Option.map_some, Int.natCast_nonneg, S1_fw] <;> rfl) ?_
  refine awp_cond (by simp only [fwA, ↓reduceIte, Nat.reduceAdd, Nat.reduceMul, Nat.reduceEqDiff, Nat.reduceLT, Nat.reduceLeDiff, reduceCtorEq] <;> rfl) ?_
  by_cases he : a = fr[i]
  · simp only [← he, decide_true, ↓reduceIte]
    have hri := idxS_some hno (ga.trans (congrArg some he.symm))
    rw [hri]
    refine awp_seq ?_
    refine awp_run rfl (by simp only [fwA, ↓reduceIte, Nat.reduceAdd, Nat.reduceMul, Nat.reduceEqDiff, Nat.reduceLT, Nat.reduceLeDiff, reduceCtorEq] <;> rfl) (awp_ret ?_)
    exact gives_end0 (.inl rfl) rfl
  simp only [he, decide_false, Bool.false_eq_true, ↓reduceIte]
  refine awp_skip ?_
  refine awp_run rfl (by simp only [fwA, ↓reduceIte, Nat.reduceAdd, Nat.reduceMul, Nat.reduceEqDiff, Nat.reduceLT, Nat.reduceLeDiff, reduceCtorEq] <;> rfl) ?_
  refine ⟨i + 1, by omega, ⟨by omega, fun j hj => ?_⟩, by rw [wrapS i (by omega)]; rfl, rfl, rfl⟩
  by_cases hji : j = i
  · subst hji; rw [ga]; simpa using fun h => he h.symm
  · exact hno j (by omega)
theorem c50 (Γ : Nat → PV) (fr : List (List UInt8)) (f : Bool) (a : List UInt8) : Gives Tryz.prog Γ 50 [.vec (fr.map S1) f, .str a] (.bool (decide (a ∈ fr))) := by
  refine fn_of_awp Tryz.func50 rfl (by simp [Tryz.f50]) rfl fun H => ?_
  refine awp_seq ?_
  refine awp_run rfl (by simp only [fwA, ↓reduceIte, Nat.reduceAdd, Nat.reduceMul, Nat.reduceEqDiff, Nat.reduceLT, Nat.reduceLeDiff, reduceCtorEq] <;> rfl) ?_
  refine awp_seq ?_
  refine awp_region rfl ?_
  refine aops_run 2 (by simp only [fwA, ↓reduceIte, Nat.reduceAdd, Nat.reduceMul, Nat.reduceEqDiff, Nat.reduceLT, Nat.reduceLeDiff, reduceCtorEq] <;> rfl) ?_
  refine aops_fn rfl rfl rfl en66 (c66 Γ fr f a) ?_
  refine aops_run 2 (by simp only [fwA, ↓reduceIte, Nat.reduceAdd, Nat.reduceMul, Nat.reduceEqDiff, Nat.reduceLT, Nat.reduceLeDiff, reduceCtorEq] <;> rfl) ?_
  exact awp_ret (gives_end0 (.inl rfl) (by rw [← idxS_mem]; rfl))
theorem c79 (Γ : Nat → PV) (fr : List (List UInt8)) (f : Bool) (a : List UInt8) : Gives Tryz.prog Γ 79 [.vec (fr.map S1) f, .str a] (.bool (decide (a ∈ fr))) := by
  refine fn_of_awp Tryz.func79 rfl (by simp [Tryz.f79]) rfl fun H => ?_
  refine awp_vlen 0 rfl fun hlen => ?_
  rw [List.length_map] at hlen
  refine awp_seq ?_
  refine awp_run rfl (by simp only [fwA, ↓reduceIte, Nat.reduceAdd, Nat.reduceMul, Nat.reduceEqDiff, Nat.reduceLT, Nat.reduceLeDiff, reduceCtorEq] <;> rfl) ?_
  refine awp_seq ?_
  refine awp_seq ?_
  refine awp_run rfl (by simp only [fwA, ↓reduceIte, Nat.reduceAdd, Nat.reduceMul, Nat.reduceEqDiff, Nat.reduceLT, Nat.reduceLeDiff, reduceCtorEq] <;> rfl) ?_
  refine awp_block ?_
  refine awp_for [0, 1, 5] (fun i : Nat => [.vec (fr.map S1) f, .str a, .int .i64 (i : Int)]) (fun _ => H) (fun i => fr.length - i) (fun i => i ≤ fr.length ∧ ∀ j, j < i → fr[j]? ≠ some a) 0 rfl rfl ⟨Nat.zero_le _, fun j hj => by omega⟩ fun i hs => ?_
  obtain ⟨hi, hno⟩ := hs
  refine awp_seq ?_
  refine awp_seq ?_
  refine awp_run rfl (by simp only [fwA, ↓reduceIte, Nat.reduceAdd, Nat.reduceMul, Nat.reduceEqDiff, Nat.reduceLT, Nat.reduceLeDiff, reduceCtorEq, un43, List.length_map] <;> rfl) ?_
  refine awp_cond (by simp only [fwA, ↓reduceIte, Nat.reduceAdd, Nat.reduceMul, Nat.reduceEqDiff, Nat.reduceLT, Nat.reduceLeDiff, reduceCtorEq] <;> rfl) ?_
  by_cases hc : (i : Int) < fr.length
  rotate_left
  · simp only [hc, decide_false, Bool.false_eq_true, ↓reduceIte]
    refine awp_exit ?_
    refine awp_seq (awp_run rfl (by simp only [fwA, ↓reduceIte, Nat.reduceAdd, Nat.reduceMul, Nat.reduceEqDiff, Nat.reduceLT, Nat.reduceLeDiff, reduceCtorEq] <;> rfl) (awp_ret ?_))
    have hi' : i = fr.length := by omega
    rw [hi'] at hno
    have hn : ¬ a ∈ fr := fun hm => by
      obtain ⟨j, hj⟩ := List.getElem?_of_mem hm
      exact hno j (List.getElem?_eq_some_iff.1 hj).1 hj
    exact gives_end0 (.inl rfl) (by rw [decide_eq_false hn]; rfl)
  simp only [hc, decide_true, ↓reduceIte]
  refine awp_skip ?_
  have hia : i < fr.length := by omega
  have ga : fr[i]? = some fr[i] := List.getElem?_eq_getElem hia
  refine awp_seq ?_
  refine awp_block ?_
  refine awp_seq ?_
  refine awp_run rfl (by simp only [fwA, ↓reduceIte, Nat.reduceAdd, Nat.reduceMul, Nat.reduceEqDiff, Nat.reduceLT, Nat.reduceLeDiff, reduceCtorEq, el43, ti9, List.getElem?_map, ga, Option.map_some, Int.natCast_nonneg, S1_fw] <;> rfl) ?_
  refine awp_cond (by simp only [fwA, ↓reduceIte, Nat.reduceAdd, Nat.reduceMul, Nat.reduceEqDiff, Nat.reduceLT, Nat.reduceLeDiff, reduceCtorEq] <;> rfl) ?_
  by_cases he : fr[i] = a
  · simp only [he, decide_true, ↓reduceIte]
    refine awp_seq (awp_run rfl (by simp only [fwA, ↓reduceIte, Nat.reduceAdd, Nat.reduceMul, Nat.reduceEqDiff, Nat.reduceLT, Nat.reduceLeDiff, reduceCtorEq] <;> rfl) (awp_ret ?_))
    exact gives_end0 (.inl rfl) (by rw [decide_eq_true (show a ∈ fr from he ▸ List.getElem_mem hia)]; rfl)
  simp only [he, decide_false, Bool.false_eq_true, ↓reduceIte]
  refine awp_skip ?_
  refine awp_run rfl (by simp only [fwA, ↓reduceIte, Nat.reduceAdd, Nat.reduceMul, Nat.reduceEqDiff, Nat.reduceLT, Nat.reduceLeDiff, reduceCtorEq] <;> rfl) ?_
  refine ⟨i + 1, by omega, ⟨by omega, fun j hj => ?_⟩, by rw [wrapS i (by omega)]; rfl, rfl, rfl⟩
  by_cases hji : j = i
  · subst hji; rw [ga]; simpa using he
  · exact hno j (by omega)
def mks : List (List UInt8) := [[61, 62], [58, 61], [40], [41], [59], [58], [61], [33], [43], [45], [42], [60], [46]]
def Tab (Γ : Nat → PV) : Prop := Γ 0 = .cptr (kidsTab.map fun z => .int .i64 z) ∧ Γ 1 = .cptr (opNs.map .str) ∧ Γ 2 = .cptr (kws.map .str) ∧ Γ 3 = .cptr (mks.map .str) ∧ Γ 4 = .cptr (Lib.pow10Tab.map fun z => .int .u64 z)
theorem ar84 : arOf Tryz.prog 84 = some (5, 1) := by kernel_rfl
theorem ar103 : arOf Tryz.prog 103 = some (14, 1) := by kernel_rfl
theorem c49 (Γ : Nat → PV) (hΓ : Tab Γ) (s : List UInt8) : Gives Tryz.prog Γ 49 [.str s] (.bool (decide (s ∈ kws))) := by
  refine fn_of_awp Tryz.func49 rfl (by simp [Tryz.f49]) rfl fun H => ?_
  refine awp_seq ?_
  refine awp_run rfl (by simp only [fwA, ↓reduceIte, Nat.reduceAdd, Nat.reduceMul, Nat.reduceEqDiff, Nat.reduceLT, Nat.reduceLeDiff, reduceCtorEq] <;> rfl) ?_
  refine awp_seq ?_
  refine awp_region rfl ?_
  refine aops_one rfl (os_sliceArr rfl ar103 (show ev Γ _ (.global 2) = _ from hΓ.2.2.1) rfl (by decide) (by decide) ?_)
  refine aops_run 1 (by simp only [fwA, ↓reduceIte, Nat.reduceAdd, Nat.reduceMul, Nat.reduceEqDiff, Nat.reduceLT, Nat.reduceLeDiff, reduceCtorEq] <;> rfl) ?_
  refine aops_fn rfl rfl rfl en50 (c50 Γ kws true s) ?_
  refine aops_run 1 (by simp only [fwA, ↓reduceIte, Nat.reduceAdd, Nat.reduceMul, Nat.reduceEqDiff, Nat.reduceLT, Nat.reduceLeDiff, reduceCtorEq] <;> rfl) ?_
  exact awp_ret (gives_end0 (.inl rfl) rfl)
theorem c103 (Γ : Nat → PV) (s : List UInt8) : Gives Tryz.prog Γ 103 [.str s] (.bool (decide (s ∈ kws))) := by
  refine fn_of_awp Tryz.func103 rfl (by simp [Tryz.f103]) rfl fun H => ?_
  refine awp_seq ?_
  refine awp_run rfl (by simp only [fwA, ↓reduceIte, Nat.reduceAdd, Nat.reduceMul, Nat.reduceEqDiff, Nat.reduceLT, Nat.reduceLeDiff, reduceCtorEq] <;> rfl) ?_
  refine awp_seq ?_
  refine awp_region rfl ?_
  refine aops_run 2 (by simp only [fwA, ↓reduceIte, Nat.reduceAdd, Nat.reduceMul, Nat.reduceEqDiff, Nat.reduceLT, Nat.reduceLeDiff, reduceCtorEq, un43, ti9] <;> rfl) ?_
  refine aops_fn rfl rfl rfl en79 (c79 Γ kws true s) ?_
  refine aops_run 1 (by simp only [fwA, ↓reduceIte, Nat.reduceAdd, Nat.reduceMul, Nat.reduceEqDiff, Nat.reduceLT, Nat.reduceLeDiff, reduceCtorEq] <;> rfl) ?_
  exact awp_ret (gives_end0 (.inl rfl) rfl)
theorem c81 (Γ : Nat → PV) (s : List UInt8) : Gives Tryz.prog Γ 81 [.str s] (.bool (decide (wordP s))) := by
  refine fn_of_awp Tryz.func81 rfl (by simp [Tryz.f81]) rfl fun H => ?_
  refine awp_seq ?_
  refine awp_run rfl (by simp only [fwA, ↓reduceIte, Nat.reduceAdd, Nat.reduceMul, Nat.reduceEqDiff, Nat.reduceLT, Nat.reduceLeDiff, reduceCtorEq] <;> rfl) ?_
  refine awp_seq ?_
  refine awp_region rfl ?_
  refine aops_run 1 (by simp only [fwA, ↓reduceIte, Nat.reduceAdd, Nat.reduceMul, Nat.reduceEqDiff, Nat.reduceLT, Nat.reduceLeDiff, reduceCtorEq] <;> rfl) ?_
  refine aops_fn rfl rfl rfl en102 (c102 Γ s) ?_
  by_cases h1 : nameP s
  rotate_left
  · refine aops_run 6 (by simp only [fwA, ↓reduceIte, Nat.reduceAdd, Nat.reduceMul, Nat.reduceEqDiff, Nat.reduceLT, Nat.reduceLeDiff, reduceCtorEq, h1, decide_false] <;> rfl) ?_
    exact awp_ret (gives_end0 (.inl rfl) (by rw [decide_eq_false (fun e => h1 e.1)]; rfl))
  refine aops_run 2 (by simp only [fwA, ↓reduceIte, Nat.reduceAdd, Nat.reduceMul, Nat.reduceEqDiff, Nat.reduceLT, Nat.reduceLeDiff, reduceCtorEq, h1, decide_true] <;> rfl) ?_
  refine aops_fnIf rfl rfl rfl rfl rfl en103 (c103 Γ s) ?_
  by_cases h2 : s ∈ kws
  · refine aops_run 3 (by simp only [fwA, ↓reduceIte, Nat.reduceAdd, Nat.reduceMul, Nat.reduceEqDiff, Nat.reduceLT, Nat.reduceLeDiff, reduceCtorEq, h2, decide_true] <;> rfl) ?_
    exact awp_ret (gives_end0 (.inl rfl) (by rw [decide_eq_false (fun e => e.2 h2)]; rfl))
  · refine aops_run 3 (by simp only [fwA, ↓reduceIte, Nat.reduceAdd, Nat.reduceMul, Nat.reduceEqDiff, Nat.reduceLT, Nat.reduceLeDiff, reduceCtorEq, h2, decide_false] <;> rfl) ?_
    exact awp_ret (gives_end0 (.inl rfl) (by rw [decide_eq_true (show wordP s from ⟨h1, h2⟩)]; rfl))
end Go.Proofs.YtddnigahjahkbaaGreatDoor
namespace Go.Proofs.YtddnigahjahkbaaGreatDoor
set_option linter.unusedVariables false
set_option linter.unusedSimpArgs false
set_option maxRecDepth 100000
open Go.RowKit Fw
theorem many_out {k : Int} (h : ¬ (1 ≤ k ∧ k < 14)) : manyI k = -1 := if_neg h
theorem c78 (Γ : Nat → PV) (k : Int) : Gives Tryz.prog Γ 78 [.int .i64 k] (.int .i64 (manyI k)) := by
  by_cases hk : 1 ≤ k ∧ k < 14
  rotate_left
  · rw [many_out hk]
    have n1 : ¬ k = 1 := by omega
    have n2 : ¬ k = 2 := by omega
    have n3 : ¬ k = 3 := by omega
    have n4 : ¬ k = 4 := by omega
    have n5 : ¬ k = 5 := by omega
    have n6 : ¬ k = 6 := by omega
    have n7 : ¬ k = 7 := by omega
    have n8 : ¬ k = 8 := by omega
    have n9 : ¬ k = 9 := by omega
    have n10 : ¬ k = 10 := by omega
    have n11 : ¬ k = 11 := by omega
    have n12 : ¬ k = 12 := by omega
    have n13 : ¬ k = 13 := by omega
    refine fn_of_awp Tryz.func78 rfl (by simp [Tryz.f78]) rfl fun H => ?_
    repeat' first
      | exact awp_ret (gives_end0 (.inl rfl) rfl)
      | refine awp_seq ?_
      | refine awp_skip ?_
      | refine awp_block ?_
      | refine awp_cond (b := true) rfl ?_
      | refine awp_cond (b := false) rfl ?_
      | refine awp_run rfl (by simp only [fwA, ↓reduceIte, Nat.reduceAdd, Nat.reduceMul, Nat.reduceEqDiff, Nat.reduceLT, Nat.reduceLeDiff, reduceCtorEq, n1, n2, n3, n4, n5, n6, n7, n8, n9, n10, n11, n12, n13, decide_true, decide_false, Int.reduceEq] <;> rfl) ?_
  · have : k = 1 ∨ k = 2 ∨ k = 3 ∨ k = 4 ∨ k = 5 ∨ k = 6 ∨ k = 7 ∨ k = 8 ∨ k = 9 ∨ k = 10 ∨ k = 11 ∨ k = 12 ∨ k = 13 := by omega
    rcases this with rfl | rfl | rfl | rfl | rfl | rfl | rfl | rfl | rfl | rfl | rfl | rfl | rfl
    all_goals
      refine fn_of_awp Tryz.func78 rfl (by simp [Tryz.f78]) rfl fun H => ?_
      repeat' first
        | exact awp_ret (gives_end0 (.inl rfl) rfl)
        | refine awp_seq ?_
        | refine awp_skip ?_
        | refine awp_block ?_
        | refine awp_cond (b := true) rfl ?_
        | refine awp_cond (b := false) rfl ?_
        | refine awp_run rfl (by simp only [fwA, ↓reduceIte, Nat.reduceAdd, Nat.reduceMul, Nat.reduceEqDiff, Nat.reduceLT, Nat.reduceLeDiff, reduceCtorEq, decide_true, decide_false, Int.reduceEq] <;> rfl) ?_
theorem tab_at {k : Int} (h1 : 1 ≤ k) (h2 : k < 14) : ((kidsTab.map fun z => PV.int .i64 z).drop (k.toNat * 1))[0]? = some (.int .i64 (kidsTab.getD k.toNat 0)) := by
  have : k = 1 ∨ k = 2 ∨ k = 3 ∨ k = 4 ∨ k = 5 ∨ k = 6 ∨ k = 7 ∨ k = 8 ∨ k = 9 ∨ k = 10 ∨ k = 11 ∨ k = 12 ∨ k = 13 := by omega
  rcases this with rfl | rfl | rfl | rfl | rfl | rfl | rfl | rfl | rfl | rfl | rfl | rfl | rfl <;> rfl
set_option maxHeartbeats 1000000 in
theorem c23 (Γ : Nat → PV) (hΓ : Tab Γ) (t : Tm) : Gives Tryz.prog Γ 23 [.agg t.enc] (.bool (decide (nodeP t))) := by
  have h0 := hΓ.1
  refine fn_of_awp Tryz.func23 rfl (by simp [Tryz.f23]) rfl fun H => ?_
  refine awp_seq ?_
  refine awp_run rfl (by simp only [fwA, ↓reduceIte, Nat.reduceAdd, Nat.reduceMul, Nat.reduceEqDiff, Nat.reduceLT, Nat.reduceLeDiff, reduceCtorEq, Tm.fw] <;> rfl) ?_
  have hsh : 0 ≤ t.kind → t.kind < 14 → (0 ≤ t.kind ∧ t.kind < ((14 : Nat) : Int)) := fun a b => ⟨a, b⟩
  refine awp_seq ?_
  refine awp_seq ?_
  by_cases k1 : t.kind < 1
  · refine awp_drawn [0, 1, 0, 0, 0, 1, 0, 0, 0, 0, 1, 0, 0, 1, 0, 1, 0, 0, 0, 0, 1, 0, 0, 0, 0, 1, 0, 0, 0, 0, 1, 0, 0, 0, 1, 0, 0, 0] [0, 1, 3, 7, 15, 31, 63, 127, 255, 511, 1023, 2047, 511, 4607, 12799, 29183, 65535, 131071, 262143, 524287, 1048575, 2097151, 4194303, 8388607, 16777215, 33554431, 67108863, 134217727, 268435455, 536870911, 1073741823, 2147483647, 4294967295, 8589934591, 17179869183, 34359738367, 68719476735, 137438953471] mixed rfl (by kernel_rfl) ?_
    refine dops_run 13 (by simp only [fwA, ↓reduceIte, Nat.reduceAdd, Nat.reduceMul, Nat.reduceEqDiff, Nat.reduceLT, Nat.reduceLeDiff, reduceCtorEq, fl24_0, ti3, fl24_3, ti22, un22, el81, ar81, fl24_2, ti2, Tm.fw, List.length_map, h0, hsh, decide_true, decide_false, Bool.not_true, Bool.not_false, k1] <;> rfl) ?_
    refine dops_run 13 (by simp only [fwA, ↓reduceIte, Nat.reduceAdd, Nat.reduceMul, Nat.reduceEqDiff, Nat.reduceLT, Nat.reduceLeDiff, reduceCtorEq, fl24_0, ti3, fl24_3, ti22, un22, el81, ar81, fl24_2, ti2, Tm.fw, List.length_map, h0, hsh, decide_true, decide_false, Bool.not_true, Bool.not_false, k1] <;> rfl) ?_
    refine dops_run 12 (by simp only [fwA, ↓reduceIte, Nat.reduceAdd, Nat.reduceMul, Nat.reduceEqDiff, Nat.reduceLT, Nat.reduceLeDiff, reduceCtorEq, fl24_0, ti3, fl24_3, ti22, un22, el81, ar81, fl24_2, ti2, Tm.fw, List.length_map, h0, hsh, decide_true, decide_false, Bool.not_true, Bool.not_false, k1] <;> rfl) ?_
    refine dops_end ?_
    refine awp_cond (b := true) (by simp [alook, aput, ev]) ?_
    refine awp_seq (awp_run rfl (by simp only [fwA, ↓reduceIte, Nat.reduceAdd, Nat.reduceMul, Nat.reduceEqDiff, Nat.reduceLT, Nat.reduceLeDiff, reduceCtorEq] <;> rfl) (awp_ret ?_))
    exact gives_end (.inl rfl) _ (by rw [decide_eq_false (fun e => absurd e.1.1 (by omega))]; rfl)
  by_cases k2 : 14 ≤ t.kind
  · refine awp_drawn [0, 1, 0, 0, 0, 1, 0, 0, 0, 0, 1, 0, 0, 1, 0, 1, 0, 0, 0, 0, 1, 0, 0, 0, 0, 1, 0, 0, 0, 0, 1, 0, 0, 0, 1, 0, 0, 0] [0, 1, 3, 7, 15, 31, 63, 127, 255, 511, 1023, 2047, 511, 4607, 12799, 29183, 65535, 131071, 262143, 524287, 1048575, 2097151, 4194303, 8388607, 16777215, 33554431, 67108863, 134217727, 268435455, 536870911, 1073741823, 2147483647, 4294967295, 8589934591, 17179869183, 34359738367, 68719476735, 137438953471] mixed rfl (by kernel_rfl) ?_
    refine dops_run 13 (by simp only [fwA, ↓reduceIte, Nat.reduceAdd, Nat.reduceMul, Nat.reduceEqDiff, Nat.reduceLT, Nat.reduceLeDiff, reduceCtorEq, fl24_0, ti3, fl24_3, ti22, un22, el81, ar81, fl24_2, ti2, Tm.fw, List.length_map, h0, hsh, decide_true, decide_false, Bool.not_true, Bool.not_false, k1, k2] <;> rfl) ?_
    refine dops_run 13 (by simp only [fwA, ↓reduceIte, Nat.reduceAdd, Nat.reduceMul, Nat.reduceEqDiff, Nat.reduceLT, Nat.reduceLeDiff, reduceCtorEq, fl24_0, ti3, fl24_3, ti22, un22, el81, ar81, fl24_2, ti2, Tm.fw, List.length_map, h0, hsh, decide_true, decide_false, Bool.not_true, Bool.not_false, k1, k2] <;> rfl) ?_
    refine dops_run 12 (by simp only [fwA, ↓reduceIte, Nat.reduceAdd, Nat.reduceMul, Nat.reduceEqDiff, Nat.reduceLT, Nat.reduceLeDiff, reduceCtorEq, fl24_0, ti3, fl24_3, ti22, un22, el81, ar81, fl24_2, ti2, Tm.fw, List.length_map, h0, hsh, decide_true, decide_false, Bool.not_true, Bool.not_false, k1, k2] <;> rfl) ?_
    refine dops_end ?_
    refine awp_cond (b := true) (by simp [alook, aput, ev]) ?_
    refine awp_seq (awp_run rfl (by simp only [fwA, ↓reduceIte, Nat.reduceAdd, Nat.reduceMul, Nat.reduceEqDiff, Nat.reduceLT, Nat.reduceLeDiff, reduceCtorEq] <;> rfl) (awp_ret ?_))
    exact gives_end (.inl rfl) _ (by rw [decide_eq_false (fun e => absurd e.1.2 (by omega))]; rfl)
  have gt := tab_at (k := t.kind) (by omega) (by omega)
  have hin : 0 ≤ t.kind ∧ t.kind < ((14 : Nat) : Int) := ⟨by omega, by omega⟩
  generalize (kidsTab.map fun z => PV.int .i64 z) = T at h0 gt
  have hnd : nodeP t ↔ (t.kids.length : Int) = kidsTab.getD t.kind.toNat 0 ∧ (t.kind ≠ 1 → t.n = 0) ∧ 0 ≤ t.n ∧ t.n < 2147483648 ∧ nmOk t := ⟨fun h => h.2, fun h => ⟨⟨by omega, by omega⟩, h⟩⟩
  generalize kidsTab.getD t.kind.toNat 0 = m at gt hnd
  rw [decide_eq_decide.2 hnd]
  by_cases k3 : (t.kids.length : Int) = m
  rotate_left
  · refine awp_drawn [0, 1, 0, 0, 0, 1, 0, 0, 0, 0, 1, 0, 0, 1, 0, 1, 0, 0, 0, 0, 1, 0, 0, 0, 0, 1, 0, 0, 0, 0, 1, 0, 0, 0, 1, 0, 0, 0] [0, 1, 3, 7, 15, 31, 63, 127, 255, 511, 1023, 2047, 511, 4607, 12799, 29183, 65535, 131071, 262143, 524287, 1048575, 2097151, 4194303, 8388607, 16777215, 33554431, 67108863, 134217727, 268435455, 536870911, 1073741823, 2147483647, 4294967295, 8589934591, 17179869183, 34359738367, 68719476735, 137438953471] mixed rfl (by kernel_rfl) ?_
    refine dops_run 13 (by simp only [fwA, ↓reduceIte, Nat.reduceAdd, Nat.reduceMul, Nat.reduceEqDiff, Nat.reduceLT, Nat.reduceLeDiff, reduceCtorEq, fl24_0, ti3, fl24_3, ti22, un22, el81, ar81, fl24_2, ti2, Tm.fw, List.length_map, h0, hsh, decide_true, decide_false, Bool.not_true, Bool.not_false, k1, k2, hin, gt, if_pos, and_self, k3] <;> rfl) ?_
    refine dops_run 13 (by simp only [fwA, ↓reduceIte, Nat.reduceAdd, Nat.reduceMul, Nat.reduceEqDiff, Nat.reduceLT, Nat.reduceLeDiff, reduceCtorEq, fl24_0, ti3, fl24_3, ti22, un22, el81, ar81, fl24_2, ti2, Tm.fw, List.length_map, h0, hsh, decide_true, decide_false, Bool.not_true, Bool.not_false, k1, k2, hin, gt, if_pos, and_self, k3] <;> rfl) ?_
    refine dops_run 12 (by simp only [fwA, ↓reduceIte, Nat.reduceAdd, Nat.reduceMul, Nat.reduceEqDiff, Nat.reduceLT, Nat.reduceLeDiff, reduceCtorEq, fl24_0, ti3, fl24_3, ti22, un22, el81, ar81, fl24_2, ti2, Tm.fw, List.length_map, h0, hsh, decide_true, decide_false, Bool.not_true, Bool.not_false, k1, k2, hin, gt, if_pos, and_self, k3] <;> rfl) ?_
    refine dops_end ?_
    refine awp_cond (b := true) (by simp [alook, aput, ev]) ?_
    refine awp_seq (awp_run rfl (by simp only [fwA, ↓reduceIte, Nat.reduceAdd, Nat.reduceMul, Nat.reduceEqDiff, Nat.reduceLT, Nat.reduceLeDiff, reduceCtorEq] <;> rfl) (awp_ret ?_))
    exact gives_end (.inl rfl) _ (by rw [decide_eq_false (fun e => absurd e.1 k3)]; rfl)
  by_cases k4 : t.n < 0
  · refine awp_drawn [0, 1, 0, 0, 0, 1, 0, 0, 0, 0, 1, 0, 0, 1, 0, 1, 0, 0, 0, 0, 1, 0, 0, 0, 0, 1, 0, 0, 0, 0, 1, 0, 0, 0, 1, 0, 0, 0] [0, 1, 3, 7, 15, 31, 63, 127, 255, 511, 1023, 2047, 511, 4607, 12799, 29183, 65535, 131071, 262143, 524287, 1048575, 2097151, 4194303, 8388607, 16777215, 33554431, 67108863, 134217727, 268435455, 536870911, 1073741823, 2147483647, 4294967295, 8589934591, 17179869183, 34359738367, 68719476735, 137438953471] mixed rfl (by kernel_rfl) ?_
    refine dops_run 13 (by simp only [fwA, ↓reduceIte, Nat.reduceAdd, Nat.reduceMul, Nat.reduceEqDiff, Nat.reduceLT, Nat.reduceLeDiff, reduceCtorEq, fl24_0, ti3, fl24_3, ti22, un22, el81, ar81, fl24_2, ti2, Tm.fw, List.length_map, h0, hsh, decide_true, decide_false, Bool.not_true, Bool.not_false, k1, k2, hin, gt, if_pos, and_self, k3, k4] <;> rfl) ?_
    refine dops_run 13 (by simp only [fwA, ↓reduceIte, Nat.reduceAdd, Nat.reduceMul, Nat.reduceEqDiff, Nat.reduceLT, Nat.reduceLeDiff, reduceCtorEq, fl24_0, ti3, fl24_3, ti22, un22, el81, ar81, fl24_2, ti2, Tm.fw, List.length_map, h0, hsh, decide_true, decide_false, Bool.not_true, Bool.not_false, k1, k2, hin, gt, if_pos, and_self, k3, k4] <;> rfl) ?_
    refine dops_run 12 (by simp only [fwA, ↓reduceIte, Nat.reduceAdd, Nat.reduceMul, Nat.reduceEqDiff, Nat.reduceLT, Nat.reduceLeDiff, reduceCtorEq, fl24_0, ti3, fl24_3, ti22, un22, el81, ar81, fl24_2, ti2, Tm.fw, List.length_map, h0, hsh, decide_true, decide_false, Bool.not_true, Bool.not_false, k1, k2, hin, gt, if_pos, and_self, k3, k4] <;> rfl) ?_
    refine dops_end ?_
    refine awp_cond (b := true) (by simp [alook, aput, ev]) ?_
    refine awp_seq (awp_run rfl (by simp only [fwA, ↓reduceIte, Nat.reduceAdd, Nat.reduceMul, Nat.reduceEqDiff, Nat.reduceLT, Nat.reduceLeDiff, reduceCtorEq] <;> rfl) (awp_ret ?_))
    exact gives_end (.inl rfl) _ (by rw [decide_eq_false (fun e => absurd e.2.2.1 (by omega))]; rfl)
  by_cases k5 : 2147483648 ≤ t.n
  · refine awp_drawn [0, 1, 0, 0, 0, 1, 0, 0, 0, 0, 1, 0, 0, 1, 0, 1, 0, 0, 0, 0, 1, 0, 0, 0, 0, 1, 0, 0, 0, 0, 1, 0, 0, 0, 1, 0, 0, 0] [0, 1, 3, 7, 15, 31, 63, 127, 255, 511, 1023, 2047, 511, 4607, 12799, 29183, 65535, 131071, 262143, 524287, 1048575, 2097151, 4194303, 8388607, 16777215, 33554431, 67108863, 134217727, 268435455, 536870911, 1073741823, 2147483647, 4294967295, 8589934591, 17179869183, 34359738367, 68719476735, 137438953471] mixed rfl (by kernel_rfl) ?_
    refine dops_run 13 (by simp only [fwA, ↓reduceIte, Nat.reduceAdd, Nat.reduceMul, Nat.reduceEqDiff, Nat.reduceLT, Nat.reduceLeDiff, reduceCtorEq, fl24_0, ti3, fl24_3, ti22, un22, el81, ar81, fl24_2, ti2, Tm.fw, List.length_map, h0, hsh, decide_true, decide_false, Bool.not_true, Bool.not_false, k1, k2, hin, gt, if_pos, and_self, k3, k4, k5] <;> rfl) ?_
    refine dops_run 13 (by simp only [fwA, ↓reduceIte, Nat.reduceAdd, Nat.reduceMul, Nat.reduceEqDiff, Nat.reduceLT, Nat.reduceLeDiff, reduceCtorEq, fl24_0, ti3, fl24_3, ti22, un22, el81, ar81, fl24_2, ti2, Tm.fw, List.length_map, h0, hsh, decide_true, decide_false, Bool.not_true, Bool.not_false, k1, k2, hin, gt, if_pos, and_self, k3, k4, k5] <;> rfl) ?_
    refine dops_run 12 (by simp only [fwA, ↓reduceIte, Nat.reduceAdd, Nat.reduceMul, Nat.reduceEqDiff, Nat.reduceLT, Nat.reduceLeDiff, reduceCtorEq, fl24_0, ti3, fl24_3, ti22, un22, el81, ar81, fl24_2, ti2, Tm.fw, List.length_map, h0, hsh, decide_true, decide_false, Bool.not_true, Bool.not_false, k1, k2, hin, gt, if_pos, and_self, k3, k4, k5] <;> rfl) ?_
    refine dops_end ?_
    refine awp_cond (b := true) (by simp [alook, aput, ev]) ?_
    refine awp_seq (awp_run rfl (by simp only [fwA, ↓reduceIte, Nat.reduceAdd, Nat.reduceMul, Nat.reduceEqDiff, Nat.reduceLT, Nat.reduceLeDiff, reduceCtorEq] <;> rfl) (awp_ret ?_))
    exact gives_end (.inl rfl) _ (by rw [decide_eq_false (fun e => absurd e.2.2.2.1 (by omega))]; rfl)
  by_cases k6 : t.kind = 1 ∨ t.n = 0
  rotate_left
  · have k6a : ¬ t.kind = 1 := fun h => k6 (.inl h)
    have k6b : ¬ t.n = 0 := fun h => k6 (.inr h)
    refine awp_drawn [0, 1, 0, 0, 0, 1, 0, 0, 0, 0, 1, 0, 0, 1, 0, 1, 0, 0, 0, 0, 1, 0, 0, 0, 0, 1, 0, 0, 0, 0, 1, 0, 0, 0, 1, 0, 0, 0] [0, 1, 3, 7, 15, 31, 63, 127, 255, 511, 1023, 2047, 511, 4607, 12799, 29183, 65535, 131071, 262143, 524287, 1048575, 2097151, 4194303, 8388607, 16777215, 33554431, 67108863, 134217727, 268435455, 536870911, 1073741823, 2147483647, 4294967295, 8589934591, 17179869183, 34359738367, 68719476735, 137438953471] mixed rfl (by kernel_rfl) ?_
    refine dops_run 13 (by simp only [fwA, ↓reduceIte, Nat.reduceAdd, Nat.reduceMul, Nat.reduceEqDiff, Nat.reduceLT, Nat.reduceLeDiff, reduceCtorEq, fl24_0, ti3, fl24_3, ti22, un22, el81, ar81, fl24_2, ti2, Tm.fw, List.length_map, h0, hsh, decide_true, decide_false, Bool.not_true, Bool.not_false, k1, k2, hin, gt, if_pos, and_self, k3, k4, k5, k6a, k6b] <;> rfl) ?_
    refine dops_run 13 (by simp only [fwA, ↓reduceIte, Nat.reduceAdd, Nat.reduceMul, Nat.reduceEqDiff, Nat.reduceLT, Nat.reduceLeDiff, reduceCtorEq, fl24_0, ti3, fl24_3, ti22, un22, el81, ar81, fl24_2, ti2, Tm.fw, List.length_map, h0, hsh, decide_true, decide_false, Bool.not_true, Bool.not_false, k1, k2, hin, gt, if_pos, and_self, k3, k4, k5, k6a, k6b] <;> rfl) ?_
    refine dops_run 12 (by simp only [fwA, ↓reduceIte, Nat.reduceAdd, Nat.reduceMul, Nat.reduceEqDiff, Nat.reduceLT, Nat.reduceLeDiff, reduceCtorEq, fl24_0, ti3, fl24_3, ti22, un22, el81, ar81, fl24_2, ti2, Tm.fw, List.length_map, h0, hsh, decide_true, decide_false, Bool.not_true, Bool.not_false, k1, k2, hin, gt, if_pos, and_self, k3, k4, k5, k6a, k6b] <;> rfl) ?_
    refine dops_end ?_
    refine awp_cond (b := true) (by simp [alook, aput, ev]) ?_
    refine awp_seq (awp_run rfl (by simp only [fwA, ↓reduceIte, Nat.reduceAdd, Nat.reduceMul, Nat.reduceEqDiff, Nat.reduceLT, Nat.reduceLeDiff, reduceCtorEq] <;> rfl) (awp_ret ?_))
    exact gives_end (.inl rfl) _ (by rw [decide_eq_false (fun e => k6b (e.2.1 k6a))]; rfl)
  refine AWP.mono (Q := fun e A' H' D' => e = .normal ∧ akeep [1, 40] A' = [(1, .ptr H.length 0), (40, .bool false)] ∧ H' = H ++ [.box t.enc] ∧ D' = []) ?_ fun e A' H' D' hq => ?_
  · by_cases k7 : t.kind = 1
    · have k7d : decide (t.kind = 1) = true := decide_eq_true k7
      refine awp_drawn [0, 1, 0, 0, 0, 1, 0, 0, 0, 0, 1, 0, 0, 1, 0, 1, 0, 0, 0, 0, 1, 0, 0, 0, 0, 1, 0, 0, 0, 0, 1, 0, 0, 0, 1, 0, 0, 0] [0, 1, 3, 7, 15, 31, 63, 127, 255, 511, 1023, 2047, 511, 4607, 12799, 29183, 65535, 131071, 262143, 524287, 1048575, 2097151, 4194303, 8388607, 16777215, 33554431, 67108863, 134217727, 268435455, 536870911, 1073741823, 2147483647, 4294967295, 8589934591, 17179869183, 34359738367, 68719476735, 137438953471] mixed rfl (by kernel_rfl) ?_
      refine dops_run 13 (by simp only [fwA, ↓reduceIte, Nat.reduceAdd, Nat.reduceMul, Nat.reduceEqDiff, Nat.reduceLT, Nat.reduceLeDiff, reduceCtorEq, fl24_0, ti3, fl24_3, ti22, un22, el81, ar81, fl24_2, ti2, Tm.fw, List.length_map, h0, hsh, decide_true, decide_false, Bool.not_true, Bool.not_false, k1, k2, hin, gt, if_pos, and_self, k3, k4, k5, k7d] <;> rfl) ?_
      refine dops_run 13 (by simp only [fwA, ↓reduceIte, Nat.reduceAdd, Nat.reduceMul, Nat.reduceEqDiff, Nat.reduceLT, Nat.reduceLeDiff, reduceCtorEq, fl24_0, ti3, fl24_3, ti22, un22, el81, ar81, fl24_2, ti2, Tm.fw, List.length_map, h0, hsh, decide_true, decide_false, Bool.not_true, Bool.not_false, k1, k2, hin, gt, if_pos, and_self, k3, k4, k5, k7d] <;> rfl) ?_
      refine dops_run 12 (by simp only [fwA, ↓reduceIte, Nat.reduceAdd, Nat.reduceMul, Nat.reduceEqDiff, Nat.reduceLT, Nat.reduceLeDiff, reduceCtorEq, fl24_0, ti3, fl24_3, ti22, un22, el81, ar81, fl24_2, ti2, Tm.fw, List.length_map, h0, hsh, decide_true, decide_false, Bool.not_true, Bool.not_false, k1, k2, hin, gt, if_pos, and_self, k3, k4, k5, k7d] <;> rfl) ?_
      refine dops_end ?_
      exact ⟨rfl, by simp [akeep, alook, aput, ev], rfl, rfl⟩
    · have k8 : t.n = 0 := k6.resolve_left k7
      refine awp_drawn [0, 1, 0, 0, 0, 1, 0, 0, 0, 0, 1, 0, 0, 1, 0, 1, 0, 0, 0, 0, 1, 0, 0, 0, 0, 1, 0, 0, 0, 0, 1, 0, 0, 0, 1, 0, 0, 0] [0, 1, 3, 7, 15, 31, 63, 127, 255, 511, 1023, 2047, 511, 4607, 12799, 29183, 65535, 131071, 262143, 524287, 1048575, 2097151, 4194303, 8388607, 16777215, 33554431, 67108863, 134217727, 268435455, 536870911, 1073741823, 2147483647, 4294967295, 8589934591, 17179869183, 34359738367, 68719476735, 137438953471] mixed rfl (by kernel_rfl) ?_
      refine dops_run 13 (by simp only [fwA, ↓reduceIte, Nat.reduceAdd, Nat.reduceMul, Nat.reduceEqDiff, Nat.reduceLT, Nat.reduceLeDiff, reduceCtorEq, fl24_0, ti3, fl24_3, ti22, un22, el81, ar81, fl24_2, ti2, Tm.fw, List.length_map, h0, hsh, decide_true, decide_false, Bool.not_true, Bool.not_false, k1, k2, hin, gt, if_pos, and_self, k3, k4, k5, k7, k8, Int.reduceLT, Int.reduceLE] <;> rfl) ?_
      refine dops_run 13 (by simp only [fwA, ↓reduceIte, Nat.reduceAdd, Nat.reduceMul, Nat.reduceEqDiff, Nat.reduceLT, Nat.reduceLeDiff, reduceCtorEq, fl24_0, ti3, fl24_3, ti22, un22, el81, ar81, fl24_2, ti2, Tm.fw, List.length_map, h0, hsh, decide_true, decide_false, Bool.not_true, Bool.not_false, k1, k2, hin, gt, if_pos, and_self, k3, k4, k5, k7, k8, Int.reduceLT, Int.reduceLE] <;> rfl) ?_
      refine dops_run 12 (by simp only [fwA, ↓reduceIte, Nat.reduceAdd, Nat.reduceMul, Nat.reduceEqDiff, Nat.reduceLT, Nat.reduceLeDiff, reduceCtorEq, fl24_0, ti3, fl24_3, ti22, un22, el81, ar81, fl24_2, ti2, Tm.fw, List.length_map, h0, hsh, decide_true, decide_false, Bool.not_true, Bool.not_false, k1, k2, hin, gt, if_pos, and_self, k3, k4, k5, k7, k8, Int.reduceLT, Int.reduceLE] <;> rfl) ?_
      refine dops_end ?_
      exact ⟨rfl, by simp [akeep, alook, aput, ev], rfl, rfl⟩
  obtain ⟨rfl, hA, rfl, rfl⟩ := hq
  refine awp_keep _ hA ?_
  have hnm : decide ((t.kids.length : Int) = m ∧ (t.kind ≠ 1 → t.n = 0) ∧ 0 ≤ t.n ∧ t.n < 2147483648 ∧ nmOk t) = decide (nmOk t) := decide_eq_decide.2 ⟨fun h => h.2.2.2.2, fun h => ⟨k3, fun a => k6.resolve_left a, by omega, by omega, h⟩⟩
  rw [hnm]
  refine awp_cond (b := false) rfl (awp_skip ?_)
  have hbk : t.binder = true → ¬ t.kind = 12 := fun kb h => by unfold Tm.binder at kb; rw [h] at kb; revert kb; decide
  have hw : t.binder = true ∨ t.kind = 2 → decide (nmOk t) = decide (wordP t.name) := fun kb => decide_eq_decide.2 (by unfold nmOk; rw [if_neg (kb.elim hbk fun h => by omega), if_pos (Or.comm.1 kb)])
  refine awp_seq ?_
  refine awp_block ?_
  refine awp_seq ?_
  refine AWP.mono (Q := fun e A' H' D' => e = .normal ∧ akeep [1, 41] A' = [(1, .ptr H.length 0), (41, .bool (t.binder || decide (t.kind = 2)))] ∧ H' = H ++ [.box t.enc] ∧ D' = []) ?_ fun e A' H' D' hq => ?_
  · -- region 3
    refine awp_region rfl ?_
    refine aops_run 1 (by simp only [fwA, ↓reduceIte, Nat.reduceAdd, Nat.reduceMul, Nat.reduceEqDiff, Nat.reduceLT, Nat.reduceLeDiff, reduceCtorEq, ti24, Tm.fw] <;> rfl) ?_
    refine aops_fn rfl rfl rfl en28 (c28 Γ t) ?_
    cases hb : t.binder with
    | true =>
      refine aops_run 6 (by simp only [fwA, ↓reduceIte, Nat.reduceAdd, Nat.reduceMul, Nat.reduceEqDiff, Nat.reduceLT, Nat.reduceLeDiff, reduceCtorEq, fl24_0, ti3, Tm.fw] <;> rfl) ?_
      exact ⟨rfl, by simp [akeep, alook, aput, ev], rfl, rfl⟩
    | false =>
      refine aops_run 6 (by simp only [fwA, ↓reduceIte, Nat.reduceAdd, Nat.reduceMul, Nat.reduceEqDiff, Nat.reduceLT, Nat.reduceLeDiff, reduceCtorEq, fl24_0, ti3, Tm.fw] <;> rfl) ?_
      exact ⟨rfl, by simp [akeep, alook, aput, ev], rfl, rfl⟩
  obtain ⟨rfl, hA, rfl, rfl⟩ := hq
  refine awp_keep _ hA ?_
  refine awp_cond (by simp only [fwA, ↓reduceIte, Nat.reduceAdd, Nat.reduceMul, Nat.reduceEqDiff, Nat.reduceLT, Nat.reduceLeDiff, reduceCtorEq] <;> rfl) ?_
  by_cases kb : t.binder = true ∨ t.kind = 2
  · have hbt : (t.binder || decide (t.kind = 2)) = true := by rcases kb with kb | kb <;> simp [kb]
    simp only [hbt, ↓reduceIte]
    rw [hw kb]
    refine awp_seq ?_
    refine awp_region rfl ?_
    refine aops_run 2 (by simp only [fwA, ↓reduceIte, Nat.reduceAdd, Nat.reduceMul, Nat.reduceEqDiff, Nat.reduceLT, Nat.reduceLeDiff, reduceCtorEq, fl24_1, ti9, Tm.fw] <;> rfl) ?_
    refine aops_fn rfl rfl rfl en48 (c48 Γ t.name) ?_
    by_cases h1 : nameP t.name
    rotate_left
    · refine aops_run 7 (by simp only [fwA, ↓reduceIte, Nat.reduceAdd, Nat.reduceMul, Nat.reduceEqDiff, Nat.reduceLT, Nat.reduceLeDiff, reduceCtorEq, h1, decide_false] <;> rfl) ?_
      exact awp_ret (gives_end (.inl rfl) _ (by rw [decide_eq_false (fun e => h1 e.1)]; rfl))
    refine aops_run 3 (by simp only [fwA, ↓reduceIte, Nat.reduceAdd, Nat.reduceMul, Nat.reduceEqDiff, Nat.reduceLT, Nat.reduceLeDiff, reduceCtorEq, fl24_1, ti9, Tm.fw, h1, decide_true] <;> rfl) ?_
    refine aops_fnIf rfl rfl rfl rfl rfl en49 (c49 Γ hΓ t.name) ?_
    by_cases h2 : t.name ∈ kws
    · refine aops_run 3 (by simp only [fwA, ↓reduceIte, Nat.reduceAdd, Nat.reduceMul, Nat.reduceEqDiff, Nat.reduceLT, Nat.reduceLeDiff, reduceCtorEq, h2, decide_true] <;> rfl) ?_
      exact awp_ret (gives_end (.inl rfl) _ (by rw [decide_eq_false (fun e => e.2 h2)]; rfl))
    · refine aops_run 3 (by simp only [fwA, ↓reduceIte, Nat.reduceAdd, Nat.reduceMul, Nat.reduceEqDiff, Nat.reduceLT, Nat.reduceLeDiff, reduceCtorEq, h2, decide_false] <;> rfl) ?_
      exact awp_ret (gives_end (.inl rfl) _ (by rw [decide_eq_true (show wordP t.name from ⟨h1, h2⟩)]; rfl))
  have hbf : (t.binder || decide (t.kind = 2)) = false := by
    have a1 : t.binder = false := by cases h : t.binder with | false => rfl | true => exact absurd (.inl h) kb
    have a2 : decide (t.kind = 2) = false := decide_eq_false fun h => kb (.inr h)
    rw [a1, a2]; rfl
  simp only [hbf, Bool.false_eq_true, ↓reduceIte]
  refine awp_seq ?_
  -- region 5
  refine awp_run rfl (by simp only [fwA, ↓reduceIte, Nat.reduceAdd, Nat.reduceMul, Nat.reduceEqDiff, Nat.reduceLT, Nat.reduceLeDiff, reduceCtorEq, fl24_0, ti3, Tm.fw] <;> rfl) ?_
  refine awp_cond (by simp only [fwA, ↓reduceIte, Nat.reduceAdd, Nat.reduceMul, Nat.reduceEqDiff, Nat.reduceLT, Nat.reduceLeDiff, reduceCtorEq] <;> rfl) ?_
  by_cases k12 : t.kind = 12
  · simp only [k12, decide_true, ↓reduceIte]
    have hw2 : decide (nmOk t) = decide (t.name ∈ opNs) := decide_eq_decide.2 (by unfold nmOk; rw [if_pos k12])
    rw [hw2]
    refine awp_seq ?_
    refine awp_drawn [0, 0, 1, 0, 0] [0, 0, 2, 7, 15] mixed rfl (by kernel_rfl) ?_
    refine dops_one _ rfl rfl (fun H A' hev => os_sliceArr rfl ar84 ((hev (.global 1) (by simp [Op.operands])).trans (show ev Γ _ (.global 1) = _ from hΓ.2.1)) rfl (by decide) (by decide) ⟨rfl, rfl⟩) ?_
    refine dops_run 2 (by simp only [fwA, ↓reduceIte, Nat.reduceAdd, Nat.reduceMul, Nat.reduceEqDiff, Nat.reduceLT, Nat.reduceLeDiff, reduceCtorEq, fl24_1, ti9, Tm.fw] <;> rfl) ?_
    refine dops_fn rfl rfl rfl rfl en50 (c50 Γ opNs true t.name) ?_
    refine dops_run 1 (by simp only [fwA, ↓reduceIte, Nat.reduceAdd, Nat.reduceMul, Nat.reduceEqDiff, Nat.reduceLT, Nat.reduceLeDiff, reduceCtorEq] <;> rfl) ?_
    refine dops_end ?_
    exact awp_ret (gives_end (.inl rfl) _ rfl)
  simp only [k12, decide_false, Bool.false_eq_true, ↓reduceIte]
  refine awp_skip ?_
  have hw3 : decide (nmOk t) = decide (t.name = []) := decide_eq_decide.2 (by unfold nmOk; rw [if_neg k12, if_neg (fun h => kb (Or.comm.1 h))])
  rw [hw3]
  simp only [Post.block, Post.then, ↓reduceIte]
  refine awp_seq ?_
  -- region 7
  refine awp_run rfl (by simp only [fwA, ↓reduceIte, Nat.reduceAdd, Nat.reduceMul, Nat.reduceEqDiff, Nat.reduceLT, Nat.reduceLeDiff, reduceCtorEq, fl24_1, ti9, Tm.fw] <;> rfl) ?_
  exact awp_ret (gives_end (.inl rfl) _ rfl)
end Go.Proofs.YtddnigahjahkbaaGreatDoor
namespace Go.Proofs.YtddnigahjahkbaaGreatDoor
set_option linter.unusedVariables false
set_option linter.unusedSimpArgs false
set_option maxRecDepth 100000
open Go.RowKit Fw
theorem many_len {t : Tm} (h : manyI t.kind = t.kids.length) : (1 ≤ t.kind ∧ t.kind < 14) ∧ (t.kids.length : Int) = kidsTab.getD t.kind.toNat 0 := by
  unfold manyI at h
  split at h
  · exact ⟨by assumption, h.symm⟩
  · omega
theorem many_node {t : Tm} (h : nodeP t) : manyI t.kind = t.kids.length := by
  unfold manyI; rw [if_pos h.1]; exact h.2.1.symm
theorem c61 (Γ : Nat → PV) (t : Tm) : Gives Tryz.prog Γ 61 [.agg t.enc] (.bool (decide (nodeP t))) := by
  refine fn_of_awp Tryz.func61 rfl (by simp [Tryz.f61]) rfl fun H => ?_
  refine awp_seq ?_
  refine awp_run rfl (by simp only [fwA, ↓reduceIte, Nat.reduceAdd, Nat.reduceMul, Nat.reduceEqDiff, Nat.reduceLT, Nat.reduceLeDiff, reduceCtorEq, Tm.fw] <;> rfl) ?_
  refine awp_seq ?_
  refine awp_seq ?_
  by_cases k1 : manyI t.kind = t.kids.length
  rotate_left
  · refine awp_drawn [0, 1, 0, 0, 1, 0, 0, 0, 0, 1, 0, 0, 0, 1, 0, 0, 0, 0, 0, 1, 0, 0, 0, 0, 1, 0, 0] [0, 1, 3, 0, 8, 24, 63, 127, 255, 511, 1023, 2047, 4095, 8191, 16383, 32767, 65535, 131071, 262143, 524287, 1048575, 2097151, 4194303, 8388607, 16777215, 33554431, 67108863] mixed rfl (by kernel_rfl) ?_
    refine dops_run 2 (by simp only [fwA, ↓reduceIte, Nat.reduceAdd, Nat.reduceMul, Nat.reduceEqDiff, Nat.reduceLT, Nat.reduceLeDiff, reduceCtorEq, fl35_0, ti3, Tm.fw] <;> rfl) ?_
    refine dops_fn rfl rfl rfl rfl en78 (c78 Γ t.kind) ?_
    refine dops_run 12 (by simp only [fwA, ↓reduceIte, Nat.reduceAdd, Nat.reduceMul, Nat.reduceEqDiff, Nat.reduceLT, Nat.reduceLeDiff, reduceCtorEq, fl35_3, ti33, un33, fl35_0, ti3, fl35_2, ti2, Tm.fw, List.length_map, decide_true, decide_false, Bool.not_true, Bool.not_false, k1] <;> rfl) ?_
    refine dops_run 12 (by simp only [fwA, ↓reduceIte, Nat.reduceAdd, Nat.reduceMul, Nat.reduceEqDiff, Nat.reduceLT, Nat.reduceLeDiff, reduceCtorEq, fl35_3, ti33, un33, fl35_0, ti3, fl35_2, ti2, Tm.fw, List.length_map, decide_true, decide_false, Bool.not_true, Bool.not_false, k1] <;> rfl) ?_
    refine dops_end ?_
    refine awp_cond (b := true) (by simp [alook, aput, ev]) ?_
    refine awp_seq (awp_run rfl (by simp only [fwA, ↓reduceIte, Nat.reduceAdd, Nat.reduceMul, Nat.reduceEqDiff, Nat.reduceLT, Nat.reduceLeDiff, reduceCtorEq] <;> rfl) (awp_ret ?_))
    exact gives_end (.inl rfl) _ (by rw [decide_eq_false (fun e => k1 (many_node e))]; rfl)
  by_cases k2 : t.kind = 1 ∨ t.n = 0
  rotate_left
  · have k2a : ¬ t.kind = 1 := fun h => k2 (.inl h)
    have k2b : ¬ t.n = 0 := fun h => k2 (.inr h)
    refine awp_drawn [0, 1, 0, 0, 1, 0, 0, 0, 0, 1, 0, 0, 0, 1, 0, 0, 0, 0, 0, 1, 0, 0, 0, 0, 1, 0, 0] [0, 1, 3, 0, 8, 24, 63, 127, 255, 511, 1023, 2047, 4095, 8191, 16383, 32767, 65535, 131071, 262143, 524287, 1048575, 2097151, 4194303, 8388607, 16777215, 33554431, 67108863] mixed rfl (by kernel_rfl) ?_
    refine dops_run 2 (by simp only [fwA, ↓reduceIte, Nat.reduceAdd, Nat.reduceMul, Nat.reduceEqDiff, Nat.reduceLT, Nat.reduceLeDiff, reduceCtorEq, fl35_0, ti3, Tm.fw] <;> rfl) ?_
    refine dops_fn rfl rfl rfl rfl en78 (c78 Γ t.kind) ?_
    refine dops_run 12 (by simp only [fwA, ↓reduceIte, Nat.reduceAdd, Nat.reduceMul, Nat.reduceEqDiff, Nat.reduceLT, Nat.reduceLeDiff, reduceCtorEq, fl35_3, ti33, un33, fl35_0, ti3, fl35_2, ti2, Tm.fw, List.length_map, decide_true, decide_false, Bool.not_true, Bool.not_false, k1, k2a, k2b] <;> rfl) ?_
    refine dops_run 12 (by simp only [fwA, ↓reduceIte, Nat.reduceAdd, Nat.reduceMul, Nat.reduceEqDiff, Nat.reduceLT, Nat.reduceLeDiff, reduceCtorEq, fl35_3, ti33, un33, fl35_0, ti3, fl35_2, ti2, Tm.fw, List.length_map, decide_true, decide_false, Bool.not_true, Bool.not_false, k1, k2a, k2b] <;> rfl) ?_
    refine dops_end ?_
    refine awp_cond (b := true) (by simp [alook, aput, ev]) ?_
    refine awp_seq (awp_run rfl (by simp only [fwA, ↓reduceIte, Nat.reduceAdd, Nat.reduceMul, Nat.reduceEqDiff, Nat.reduceLT, Nat.reduceLeDiff, reduceCtorEq] <;> rfl) (awp_ret ?_))
    exact gives_end (.inl rfl) _ (by rw [decide_eq_false (fun e => k2b (e.2.2.1 k2a))]; rfl)
  have kk : decide (t.kind = 1) = true ∨ decide (t.kind = 1) = false ∧ decide (t.n = 0) = true := by
    by_cases h : t.kind = 1
    · exact .inl (decide_eq_true h)
    · exact .inr ⟨decide_eq_false h, decide_eq_true (k2.resolve_left h)⟩
  by_cases k3 : t.n < 0
  · have k3d := decide_eq_true k3
    rcases kk with kk | ⟨kk, kz⟩
    · refine awp_drawn [0, 1, 0, 0, 1, 0, 0, 0, 0, 1, 0, 0, 0, 1, 0, 0, 0, 0, 0, 1, 0, 0, 0, 0, 1, 0, 0] [0, 1, 3, 0, 8, 24, 63, 127, 255, 511, 1023, 2047, 4095, 8191, 16383, 32767, 65535, 131071, 262143, 524287, 1048575, 2097151, 4194303, 8388607, 16777215, 33554431, 67108863] mixed rfl (by kernel_rfl) ?_
      refine dops_run 2 (by simp only [fwA, ↓reduceIte, Nat.reduceAdd, Nat.reduceMul, Nat.reduceEqDiff, Nat.reduceLT, Nat.reduceLeDiff, reduceCtorEq, fl35_0, ti3, Tm.fw] <;> rfl) ?_
      refine dops_fn rfl rfl rfl rfl en78 (c78 Γ t.kind) ?_
      refine dops_run 12 (by simp only [fwA, ↓reduceIte, Nat.reduceAdd, Nat.reduceMul, Nat.reduceEqDiff, Nat.reduceLT, Nat.reduceLeDiff, reduceCtorEq, fl35_3, ti33, un33, fl35_0, ti3, fl35_2, ti2, Tm.fw, List.length_map, decide_true, decide_false, Bool.not_true, Bool.not_false, k1, kk, k3d] <;> rfl) ?_
      refine dops_run 12 (by simp only [fwA, ↓reduceIte, Nat.reduceAdd, Nat.reduceMul, Nat.reduceEqDiff, Nat.reduceLT, Nat.reduceLeDiff, reduceCtorEq, fl35_3, ti33, un33, fl35_0, ti3, fl35_2, ti2, Tm.fw, List.length_map, decide_true, decide_false, Bool.not_true, Bool.not_false, k1, kk, k3d] <;> rfl) ?_
      refine dops_end ?_
      refine awp_cond (b := true) (by simp [alook, aput, ev]) ?_
      refine awp_seq (awp_run rfl (by simp only [fwA, ↓reduceIte, Nat.reduceAdd, Nat.reduceMul, Nat.reduceEqDiff, Nat.reduceLT, Nat.reduceLeDiff, reduceCtorEq] <;> rfl) (awp_ret ?_))
      exact gives_end (.inl rfl) _ (by rw [decide_eq_false (fun e => absurd e.2.2.2.1 (by omega))]; rfl)
    · refine awp_drawn [0, 1, 0, 0, 1, 0, 0, 0, 0, 1, 0, 0, 0, 1, 0, 0, 0, 0, 0, 1, 0, 0, 0, 0, 1, 0, 0] [0, 1, 3, 0, 8, 24, 63, 127, 255, 511, 1023, 2047, 4095, 8191, 16383, 32767, 65535, 131071, 262143, 524287, 1048575, 2097151, 4194303, 8388607, 16777215, 33554431, 67108863] mixed rfl (by kernel_rfl) ?_
      refine dops_run 2 (by simp only [fwA, ↓reduceIte, Nat.reduceAdd, Nat.reduceMul, Nat.reduceEqDiff, Nat.reduceLT, Nat.reduceLeDiff, reduceCtorEq, fl35_0, ti3, Tm.fw] <;> rfl) ?_
      refine dops_fn rfl rfl rfl rfl en78 (c78 Γ t.kind) ?_
      refine dops_run 12 (by simp only [fwA, ↓reduceIte, Nat.reduceAdd, Nat.reduceMul, Nat.reduceEqDiff, Nat.reduceLT, Nat.reduceLeDiff, reduceCtorEq, fl35_3, ti33, un33, fl35_0, ti3, fl35_2, ti2, Tm.fw, List.length_map, decide_true, decide_false, Bool.not_true, Bool.not_false, k1, kk, kz, k3d] <;> rfl) ?_
      refine dops_run 12 (by simp only [fwA, ↓reduceIte, Nat.reduceAdd, Nat.reduceMul, Nat.reduceEqDiff, Nat.reduceLT, Nat.reduceLeDiff, reduceCtorEq, fl35_3, ti33, un33, fl35_0, ti3, fl35_2, ti2, Tm.fw, List.length_map, decide_true, decide_false, Bool.not_true, Bool.not_false, k1, kk, kz, k3d] <;> rfl) ?_
      refine dops_end ?_
      refine awp_cond (b := true) (by simp [alook, aput, ev]) ?_
      refine awp_seq (awp_run rfl (by simp only [fwA, ↓reduceIte, Nat.reduceAdd, Nat.reduceMul, Nat.reduceEqDiff, Nat.reduceLT, Nat.reduceLeDiff, reduceCtorEq] <;> rfl) (awp_ret ?_))
      exact gives_end (.inl rfl) _ (by rw [decide_eq_false (fun e => absurd e.2.2.2.1 (by omega))]; rfl)
  have k3d := decide_eq_false k3
  by_cases k4 : 2147483648 ≤ t.n
  · have k4d := decide_eq_true k4
    rcases kk with kk | ⟨kk, kz⟩
    · refine awp_drawn [0, 1, 0, 0, 1, 0, 0, 0, 0, 1, 0, 0, 0, 1, 0, 0, 0, 0, 0, 1, 0, 0, 0, 0, 1, 0, 0] [0, 1, 3, 0, 8, 24, 63, 127, 255, 511, 1023, 2047, 4095, 8191, 16383, 32767, 65535, 131071, 262143, 524287, 1048575, 2097151, 4194303, 8388607, 16777215, 33554431, 67108863] mixed rfl (by kernel_rfl) ?_
      refine dops_run 2 (by simp only [fwA, ↓reduceIte, Nat.reduceAdd, Nat.reduceMul, Nat.reduceEqDiff, Nat.reduceLT, Nat.reduceLeDiff, reduceCtorEq, fl35_0, ti3, Tm.fw] <;> rfl) ?_
      refine dops_fn rfl rfl rfl rfl en78 (c78 Γ t.kind) ?_
      refine dops_run 12 (by simp only [fwA, ↓reduceIte, Nat.reduceAdd, Nat.reduceMul, Nat.reduceEqDiff, Nat.reduceLT, Nat.reduceLeDiff, reduceCtorEq, fl35_3, ti33, un33, fl35_0, ti3, fl35_2, ti2, Tm.fw, List.length_map, decide_true, decide_false, Bool.not_true, Bool.not_false, k1, kk, k3d, k4d] <;> rfl) ?_
      refine dops_run 12 (by simp only [fwA, ↓reduceIte, Nat.reduceAdd, Nat.reduceMul, Nat.reduceEqDiff, Nat.reduceLT, Nat.reduceLeDiff, reduceCtorEq, fl35_3, ti33, un33, fl35_0, ti3, fl35_2, ti2, Tm.fw, List.length_map, decide_true, decide_false, Bool.not_true, Bool.not_false, k1, kk, k3d, k4d] <;> rfl) ?_
      refine dops_end ?_
      refine awp_cond (b := true) (by simp [alook, aput, ev]) ?_
      refine awp_seq (awp_run rfl (by simp only [fwA, ↓reduceIte, Nat.reduceAdd, Nat.reduceMul, Nat.reduceEqDiff, Nat.reduceLT, Nat.reduceLeDiff, reduceCtorEq] <;> rfl) (awp_ret ?_))
      exact gives_end (.inl rfl) _ (by rw [decide_eq_false (fun e => absurd e.2.2.2.2.1 (by omega))]; rfl)
    · refine awp_drawn [0, 1, 0, 0, 1, 0, 0, 0, 0, 1, 0, 0, 0, 1, 0, 0, 0, 0, 0, 1, 0, 0, 0, 0, 1, 0, 0] [0, 1, 3, 0, 8, 24, 63, 127, 255, 511, 1023, 2047, 4095, 8191, 16383, 32767, 65535, 131071, 262143, 524287, 1048575, 2097151, 4194303, 8388607, 16777215, 33554431, 67108863] mixed rfl (by kernel_rfl) ?_
      refine dops_run 2 (by simp only [fwA, ↓reduceIte, Nat.reduceAdd, Nat.reduceMul, Nat.reduceEqDiff, Nat.reduceLT, Nat.reduceLeDiff, reduceCtorEq, fl35_0, ti3, Tm.fw] <;> rfl) ?_
      refine dops_fn rfl rfl rfl rfl en78 (c78 Γ t.kind) ?_
      refine dops_run 12 (by simp only [fwA, ↓reduceIte, Nat.reduceAdd, Nat.reduceMul, Nat.reduceEqDiff, Nat.reduceLT, Nat.reduceLeDiff, reduceCtorEq, fl35_3, ti33, un33, fl35_0, ti3, fl35_2, ti2, Tm.fw, List.length_map, decide_true, decide_false, Bool.not_true, Bool.not_false, k1, kk, kz, k3d, k4d] <;> rfl) ?_
      refine dops_run 12 (by simp only [fwA, ↓reduceIte, Nat.reduceAdd, Nat.reduceMul, Nat.reduceEqDiff, Nat.reduceLT, Nat.reduceLeDiff, reduceCtorEq, fl35_3, ti33, un33, fl35_0, ti3, fl35_2, ti2, Tm.fw, List.length_map, decide_true, decide_false, Bool.not_true, Bool.not_false, k1, kk, kz, k3d, k4d] <;> rfl) ?_
      refine dops_end ?_
      refine awp_cond (b := true) (by simp [alook, aput, ev]) ?_
      refine awp_seq (awp_run rfl (by simp only [fwA, ↓reduceIte, Nat.reduceAdd, Nat.reduceMul, Nat.reduceEqDiff, Nat.reduceLT, Nat.reduceLeDiff, reduceCtorEq] <;> rfl) (awp_ret ?_))
      exact gives_end (.inl rfl) _ (by rw [decide_eq_false (fun e => absurd e.2.2.2.2.1 (by omega))]; rfl)
  have k4d := decide_eq_false k4
  refine AWP.mono (Q := fun e A' H' D' => e = .normal ∧ akeep [1, 29] A' = [(1, .ptr H.length 0), (29, .bool false)] ∧ H' = H ++ [.box t.enc] ∧ D' = []) ?_ fun e A' H' D' hq => ?_
  · rcases kk with kk | ⟨kk, kz⟩
    · refine awp_drawn [0, 1, 0, 0, 1, 0, 0, 0, 0, 1, 0, 0, 0, 1, 0, 0, 0, 0, 0, 1, 0, 0, 0, 0, 1, 0, 0] [0, 1, 3, 0, 8, 24, 63, 127, 255, 511, 1023, 2047, 4095, 8191, 16383, 32767, 65535, 131071, 262143, 524287, 1048575, 2097151, 4194303, 8388607, 16777215, 33554431, 67108863] mixed rfl (by kernel_rfl) ?_
      refine dops_run 2 (by simp only [fwA, ↓reduceIte, Nat.reduceAdd, Nat.reduceMul, Nat.reduceEqDiff, Nat.reduceLT, Nat.reduceLeDiff, reduceCtorEq, fl35_0, ti3, Tm.fw] <;> rfl) ?_
      refine dops_fn rfl rfl rfl rfl en78 (c78 Γ t.kind) ?_
      refine dops_run 12 (by simp only [fwA, ↓reduceIte, Nat.reduceAdd, Nat.reduceMul, Nat.reduceEqDiff, Nat.reduceLT, Nat.reduceLeDiff, reduceCtorEq, fl35_3, ti33, un33, fl35_0, ti3, fl35_2, ti2, Tm.fw, List.length_map, decide_true, decide_false, Bool.not_true, Bool.not_false, k1, kk, k3d, k4d] <;> rfl) ?_
      refine dops_run 12 (by simp only [fwA, ↓reduceIte, Nat.reduceAdd, Nat.reduceMul, Nat.reduceEqDiff, Nat.reduceLT, Nat.reduceLeDiff, reduceCtorEq, fl35_3, ti33, un33, fl35_0, ti3, fl35_2, ti2, Tm.fw, List.length_map, decide_true, decide_false, Bool.not_true, Bool.not_false, k1, kk, k3d, k4d] <;> rfl) ?_
      refine dops_end ?_
      exact ⟨rfl, by simp [akeep, alook, aput, ev], rfl, rfl⟩
    · refine awp_drawn [0, 1, 0, 0, 1, 0, 0, 0, 0, 1, 0, 0, 0, 1, 0, 0, 0, 0, 0, 1, 0, 0, 0, 0, 1, 0, 0] [0, 1, 3, 0, 8, 24, 63, 127, 255, 511, 1023, 2047, 4095, 8191, 16383, 32767, 65535, 131071, 262143, 524287, 1048575, 2097151, 4194303, 8388607, 16777215, 33554431, 67108863] mixed rfl (by kernel_rfl) ?_
      refine dops_run 2 (by simp only [fwA, ↓reduceIte, Nat.reduceAdd, Nat.reduceMul, Nat.reduceEqDiff, Nat.reduceLT, Nat.reduceLeDiff, reduceCtorEq, fl35_0, ti3, Tm.fw] <;> rfl) ?_
      refine dops_fn rfl rfl rfl rfl en78 (c78 Γ t.kind) ?_
      refine dops_run 12 (by simp only [fwA, ↓reduceIte, Nat.reduceAdd, Nat.reduceMul, Nat.reduceEqDiff, Nat.reduceLT, Nat.reduceLeDiff, reduceCtorEq, fl35_3, ti33, un33, fl35_0, ti3, fl35_2, ti2, Tm.fw, List.length_map, decide_true, decide_false, Bool.not_true, Bool.not_false, k1, kk, kz, k3d, k4d] <;> rfl) ?_
      refine dops_run 12 (by simp only [fwA, ↓reduceIte, Nat.reduceAdd, Nat.reduceMul, Nat.reduceEqDiff, Nat.reduceLT, Nat.reduceLeDiff, reduceCtorEq, fl35_3, ti33, un33, fl35_0, ti3, fl35_2, ti2, Tm.fw, List.length_map, decide_true, decide_false, Bool.not_true, Bool.not_false, k1, kk, kz, k3d, k4d] <;> rfl) ?_
      refine dops_end ?_
      exact ⟨rfl, by simp [akeep, alook, aput, ev], rfl, rfl⟩
  obtain ⟨rfl, hA, rfl, rfl⟩ := hq
  refine awp_keep _ hA ?_
  obtain ⟨hm1, hm2⟩ := many_len k1
  have hnm : decide (nodeP t) = decide (nmOk t) := decide_eq_decide.2 ⟨fun h => h.2.2.2.2.2, fun h => ⟨hm1, hm2, fun a => k2.resolve_left a, by omega, by omega, h⟩⟩
  rw [hnm]
  refine awp_cond (b := false) rfl (awp_skip ?_)
  have hbk : t.binder = true → ¬ t.kind = 12 := fun kb h => by unfold Tm.binder at kb; rw [h] at kb; revert kb; decide
  refine awp_seq ?_
  refine awp_block ?_
  refine awp_seq ?_
  -- region 3
  refine awp_run rfl (by simp only [fwA, ↓reduceIte, Nat.reduceAdd, Nat.reduceMul, Nat.reduceEqDiff, Nat.reduceLT, Nat.reduceLeDiff, reduceCtorEq, fl35_0, ti3, Tm.fw] <;> rfl) ?_
  refine awp_cond (by simp only [fwA, ↓reduceIte, Nat.reduceAdd, Nat.reduceMul, Nat.reduceEqDiff, Nat.reduceLT, Nat.reduceLeDiff, reduceCtorEq] <;> rfl) ?_
  by_cases k12 : t.kind = 12
  · simp only [k12, decide_true, ↓reduceIte]
    have hw2 : decide (nmOk t) = decide (t.name ∈ opNs) := decide_eq_decide.2 (by unfold nmOk; rw [if_pos k12])
    rw [hw2]
    refine awp_seq ?_
    -- region 4
    refine awp_region rfl ?_
    refine aops_run 3 (by simp only [fwA, ↓reduceIte, Nat.reduceAdd, Nat.reduceMul, Nat.reduceEqDiff, Nat.reduceLT, Nat.reduceLeDiff, reduceCtorEq, un43, ti9, fl35_1, Tm.fw, Bool.and_self] <;> rfl) ?_
    refine aops_fn rfl rfl rfl en79 (c79 Γ opNs true t.name) ?_
    refine aops_run 1 (by simp only [fwA, ↓reduceIte, Nat.reduceAdd, Nat.reduceMul, Nat.reduceEqDiff, Nat.reduceLT, Nat.reduceLeDiff, reduceCtorEq] <;> rfl) ?_
    exact awp_ret (gives_end (.inl rfl) _ rfl)
  simp only [k12, decide_false, Bool.false_eq_true, ↓reduceIte]
  refine awp_seq ?_
  refine AWP.mono (Q := fun e A' H' D' => e = .normal ∧ akeep [1, 38] A' = [(1, .ptr H.length 0), (38, .bool (decide (t.kind = 2) || t.binder))] ∧ H' = H ++ [.box t.enc] ∧ D' = []) ?_ fun e A' H' D' hq => ?_
  · -- region 5
    refine awp_region rfl ?_
    by_cases kv : t.kind = 2
    · refine aops_run 8 (by simp only [fwA, ↓reduceIte, Nat.reduceAdd, Nat.reduceMul, Nat.reduceEqDiff, Nat.reduceLT, Nat.reduceLeDiff, reduceCtorEq, fl35_0, ti3, ti35, Tm.fw, kv, decide_true] <;> rfl) ?_
      exact ⟨rfl, by simp [akeep, alook, aput, ev, kv], rfl, rfl⟩
    refine aops_run 5 (by simp only [fwA, ↓reduceIte, Nat.reduceAdd, Nat.reduceMul, Nat.reduceEqDiff, Nat.reduceLT, Nat.reduceLeDiff, reduceCtorEq, fl35_0, ti3, ti35, Tm.fw, kv, decide_false] <;> rfl) ?_
    refine aops_fnIf rfl rfl rfl rfl rfl en80 (c80 Γ t) ?_
    refine aops_run 2 (by simp only [fwA, ↓reduceIte, Nat.reduceAdd, Nat.reduceMul, Nat.reduceEqDiff, Nat.reduceLT, Nat.reduceLeDiff, reduceCtorEq] <;> rfl) ?_
    exact ⟨rfl, by simp [akeep, alook, aput, ev, kv], rfl, rfl⟩
  obtain ⟨rfl, hA, rfl, rfl⟩ := hq
  refine awp_keep _ hA ?_
  refine awp_cond (by simp only [fwA, ↓reduceIte, Nat.reduceAdd, Nat.reduceMul, Nat.reduceEqDiff, Nat.reduceLT, Nat.reduceLeDiff, reduceCtorEq] <;> rfl) ?_
  by_cases kb : t.kind = 2 ∨ t.binder = true
  · have hbt : (decide (t.kind = 2) || t.binder) = true := by rcases kb with kb | kb <;> simp [kb]
    simp only [hbt, ↓reduceIte]
    have hw : decide (nmOk t) = decide (wordP t.name) := decide_eq_decide.2 (by unfold nmOk; rw [if_neg k12, if_pos kb])
    rw [hw]
    refine awp_seq ?_
    refine awp_region rfl ?_
    refine aops_run 2 (by simp only [fwA, ↓reduceIte, Nat.reduceAdd, Nat.reduceMul, Nat.reduceEqDiff, Nat.reduceLT, Nat.reduceLeDiff, reduceCtorEq, fl35_1, ti9, Tm.fw] <;> rfl) ?_
    refine aops_fn rfl rfl rfl en81 (c81 Γ t.name) ?_
    refine aops_run 1 (by simp only [fwA, ↓reduceIte, Nat.reduceAdd, Nat.reduceMul, Nat.reduceEqDiff, Nat.reduceLT, Nat.reduceLeDiff, reduceCtorEq] <;> rfl) ?_
    exact awp_ret (gives_end (.inl rfl) _ rfl)
  have hbf : (decide (t.kind = 2) || t.binder) = false := by
    have a1 : t.binder = false := by cases h : t.binder with | false => rfl | true => exact absurd (.inr h) kb
    have a2 : decide (t.kind = 2) = false := decide_eq_false fun h => kb (.inl h)
    rw [a1, a2]; rfl
  simp only [hbf, Bool.false_eq_true, ↓reduceIte]
  refine awp_skip ?_
  have hw3 : decide (nmOk t) = decide (t.name = []) := decide_eq_decide.2 (by unfold nmOk; rw [if_neg k12, if_neg kb])
  rw [hw3]
  simp only [Post.block, Post.then, ↓reduceIte]
  refine awp_seq ?_
  -- region 7
  refine awp_run rfl (by simp only [fwA, ↓reduceIte, Nat.reduceAdd, Nat.reduceMul, Nat.reduceEqDiff, Nat.reduceLT, Nat.reduceLeDiff, reduceCtorEq, fl35_1, ti9, Tm.fw] <;> rfl) ?_
  exact awp_ret (gives_end (.inl rfl) _ rfl)
theorem c40 (Γ : Nat → PV) : ∀ t : Tm, Gives Tryz.prog Γ 40 [.agg t.enc] (.bool (decide (Nodes t))) := by
  refine Tm.ind fun t ih => ?_
  refine fn_of_awp Tryz.func40 rfl (by simp [Tryz.f40]) rfl fun H => ?_
  refine awp_seq ?_
  refine awp_run rfl (by simp only [fwA, ↓reduceIte, Nat.reduceAdd, Nat.reduceMul, Nat.reduceEqDiff, Nat.reduceLT, Nat.reduceLeDiff, reduceCtorEq] <;> rfl) ?_
  refine awp_seq ?_
  refine awp_seq ?_
  refine awp_region rfl ?_
  refine aops_run 1 (by simp only [fwA, ↓reduceIte, Nat.reduceAdd, Nat.reduceMul, Nat.reduceEqDiff, Nat.reduceLT, Nat.reduceLeDiff, reduceCtorEq, ti35, Tm.fw] <;> rfl) ?_
  refine aops_fn rfl rfl rfl en61 (c61 Γ t) ?_
  refine aops_run 1 (by simp only [fwA, ↓reduceIte, Nat.reduceAdd, Nat.reduceMul, Nat.reduceEqDiff, Nat.reduceLT, Nat.reduceLeDiff, reduceCtorEq] <;> rfl) ?_
  refine awp_cond (by simp only [fwA, ↓reduceIte, Nat.reduceAdd, Nat.reduceMul, Nat.reduceEqDiff, Nat.reduceLT, Nat.reduceLeDiff, reduceCtorEq] <;> rfl) ?_
  by_cases hn : nodeP t
  rotate_left
  · simp only [hn, decide_false, Bool.not_false, ↓reduceIte]
    refine awp_seq (awp_run rfl (by simp only [fwA, ↓reduceIte, Nat.reduceAdd, Nat.reduceMul, Nat.reduceEqDiff, Nat.reduceLT, Nat.reduceLeDiff, reduceCtorEq] <;> rfl) (awp_ret ?_))
    exact gives_end (.inl rfl) _ (by rw [decide_eq_false (fun e => hn e.node)]; rfl)
  simp only [hn, decide_true, Bool.not_true, Bool.false_eq_true, ↓reduceIte]
  refine awp_skip ?_
  refine awp_seq ?_
  refine awp_seq ?_
  refine awp_run rfl (by simp only [fwA, ↓reduceIte, Nat.reduceAdd, Nat.reduceMul, Nat.reduceEqDiff, Nat.reduceLT, Nat.reduceLeDiff, reduceCtorEq] <;> rfl) ?_
  refine awp_block ?_
  refine awp_for [1, 3] (fun i : Nat => [.ptr H.length 0, .int .i64 i]) (fun _ => H ++ [.box t.enc]) (fun i => t.kids.length - i) (fun i => i ≤ t.kids.length ∧ ∀ k ∈ t.kids.take i, Nodes k) 0 rfl rfl ⟨Nat.zero_le _, fun k hk => by cases hk⟩ fun i hs => ?_
  obtain ⟨hi, hp⟩ := hs
  refine awp_seq ?_
  refine awp_seq ?_
  refine awp_run rfl (by simp only [fwA, ↓reduceIte, Nat.reduceAdd, Nat.reduceMul, Nat.reduceEqDiff, Nat.reduceLT, Nat.reduceLeDiff, reduceCtorEq, fl35_3, ti33, un33, Tm.fw, List.length_map] <;> rfl) ?_
  refine awp_vlen 9 rfl fun hlen => ?_
  rw [List.length_map] at hlen
  refine awp_cond (by simp only [fwA, ↓reduceIte, Nat.reduceAdd, Nat.reduceMul, Nat.reduceEqDiff, Nat.reduceLT, Nat.reduceLeDiff, reduceCtorEq] <;> rfl) ?_
  by_cases hc : (i : Int) < t.kids.length
  rotate_left
  · simp only [hc, decide_false, Bool.false_eq_true, ↓reduceIte]
    refine awp_exit ?_
    have hie : i = t.kids.length := by omega
    rw [hie, List.take_length] at hp
    refine awp_seq (awp_run rfl (by simp only [fwA, ↓reduceIte, Nat.reduceAdd, Nat.reduceMul, Nat.reduceEqDiff, Nat.reduceLT, Nat.reduceLeDiff, reduceCtorEq] <;> rfl) (awp_ret ?_))
    exact gives_end (.inl rfl) _ (by rw [decide_eq_true (Nodes.mk t hn hp)]; rfl)
  simp only [hc, decide_true, ↓reduceIte]
  refine awp_skip ?_
  have hia : i < t.kids.length := by omega
  have ga : t.kids[i]? = some t.kids[i] := List.getElem?_eq_getElem hia
  refine awp_seq ?_
  refine awp_block ?_
  refine awp_seq ?_
  refine awp_region rfl ?_
  refine aops_run 5 (by simp only [fwA, ↓reduceIte, Nat.reduceAdd, Nat.reduceMul, Nat.reduceEqDiff, Nat.reduceLT, Nat.reduceLeDiff, reduceCtorEq, fl35_3, ti33, el33, ti35, Tm.fw, List.getElem?_map, ga, Option.map_some, Int.natCast_nonneg] <;> rfl) ?_
  refine aops_fn rfl rfl rfl en40 (ih _ (List.getElem_mem hia)) ?_
  refine aops_run 1 (by simp only [fwA, ↓reduceIte, Nat.reduceAdd, Nat.reduceMul, Nat.reduceEqDiff, Nat.reduceLT, Nat.reduceLeDiff, reduceCtorEq] <;> rfl) ?_
  refine awp_cond (by simp only [fwA, ↓reduceIte, Nat.reduceAdd, Nat.reduceMul, Nat.reduceEqDiff, Nat.reduceLT, Nat.reduceLeDiff, reduceCtorEq] <;> rfl) ?_
  by_cases hk : Nodes t.kids[i]
  rotate_left
  · simp only [hk, decide_false, Bool.not_false, ↓reduceIte]
    refine awp_seq (awp_run rfl (by simp only [fwA, ↓reduceIte, Nat.reduceAdd, Nat.reduceMul, Nat.reduceEqDiff, Nat.reduceLT, Nat.reduceLeDiff, reduceCtorEq] <;> rfl) (awp_ret ?_))
    exact gives_end (.inl rfl) _ (by rw [decide_eq_false (fun e => hk (e.kids _ (List.getElem_mem hia)))]; rfl)
  simp only [hk, decide_true, Bool.not_true, Bool.false_eq_true, ↓reduceIte]
  refine awp_skip ?_
  refine awp_run rfl (by simp only [fwA, ↓reduceIte, Nat.reduceAdd, Nat.reduceMul, Nat.reduceEqDiff, Nat.reduceLT, Nat.reduceLeDiff, reduceCtorEq] <;> rfl) ?_
  refine ⟨i + 1, by omega, ⟨by omega, fun k hk' => ?_⟩, by rw [wrapS i (by omega)]; rfl, rfl, rfl⟩
  rw [List.take_add_one, ga] at hk'
  rcases List.mem_append.1 hk' with h | h
  · exact hp k h
  · simp only [Option.toList_some, List.mem_singleton] at h; exact h ▸ hk
theorem c51 (Γ : Nat → PV) (f : Nat) (he : Enters Tryz.prog f) (caps : List PV) (l : List Tm) (S Z : Nat → List Blk → Prop)
    (hS : ∀ (i : Nat) (x : Tm) (H : List Blk), l[i]? = some x → S i H → ACalls Tryz.prog Γ f ([.agg (Tm.enc x)] ++ caps) H (fun p H' => p = .bool false ∧ S (i + 1) H' ∨ p = .bool true ∧ Z i H')) (H : List Blk) (h0 : S 0 H) :
    ACalls Tryz.prog Γ 51 [.vec (l.map Tm.enc) false, .func (.func f) [] caps] H (fun p H' => H.length ≤ H'.length ∧ (p = .int .i64 (-1) ∧ S l.length H' ∨ ∃ i : Nat, p = .int .i64 i ∧ Z i H')) := by
  refine acalls_of_awp Tryz.func51 rfl (by simp [Tryz.f51]) fun hbd => ?_
  refine awp_seq ?_
  refine awp_run rfl (by simp only [fwA, ↓reduceIte, Nat.reduceAdd, Nat.reduceMul, Nat.reduceEqDiff, Nat.reduceLT, Nat.reduceLeDiff, reduceCtorEq] <;> rfl) ?_
  refine awp_vlen 0 rfl fun hlen => ?_
  rw [List.length_map] at hlen
  refine awp_seq ?_
  refine awp_seq ?_
  refine awp_run rfl (by simp only [fwA, ↓reduceIte, Nat.reduceAdd, Nat.reduceMul, Nat.reduceEqDiff, Nat.reduceLT, Nat.reduceLeDiff, reduceCtorEq, un22, List.length_map] <;> rfl) ?_
  refine awp_block ?_
  refine awp_for [0, 1, 7, 8] (fun s : Nat × List Blk => [.vec (l.map Tm.enc) false, .func (.func f) [] caps, .int .i64 l.length, .int .i64 (s.1 : Int)]) (fun s => s.2) (fun s => l.length - s.1)
    (fun s => s.1 ≤ l.length ∧ S s.1 s.2 ∧ H.length ≤ s.2.length) (0, H) rfl rfl ⟨Nat.zero_le _, h0, Nat.le_refl _⟩ fun s hs => ?_
  obtain ⟨i, Hi⟩ := s
  obtain ⟨hi, hSi, hn⟩ := hs
  dsimp only at hi hSi hn ⊢
  refine awp_seq ?_
  refine awp_run rfl (by simp only [fwA, ↓reduceIte, Nat.reduceAdd, Nat.reduceMul, Nat.reduceEqDiff, Nat.reduceLT, Nat.reduceLeDiff, reduceCtorEq] <;> rfl) ?_
  refine awp_seq ?_
  refine awp_cond (by simp only [fwA, ↓reduceIte, Nat.reduceAdd, Nat.reduceMul, Nat.reduceEqDiff, Nat.reduceLT, Nat.reduceLeDiff, reduceCtorEq] <;> rfl) ?_
  by_cases hc : (i : Int) < l.length
  rotate_left
  · simp only [hc, decide_false, Bool.false_eq_true, ↓reduceIte]
    refine awp_exit ?_
    have hie : i = l.length := by omega
    subst hie
    refine awp_bd fun hbd' => ?_
    refine awp_seq (awp_run rfl (by simp only [fwA, ↓reduceIte, Nat.reduceAdd, Nat.reduceMul, Nat.reduceEqDiff, Nat.reduceLT, Nat.reduceLeDiff, reduceCtorEq] <;> rfl) (awp_ret ?_))
    exact calls_at (p := .int .i64 (-1)) (.inl rfl) hbd' rfl rfl hn ⟨hn, .inl ⟨rfl, hSi⟩⟩
  simp only [hc, decide_true, ↓reduceIte]
  refine awp_skip ?_
  have hia : i < l.length := by omega
  have ga : l[i]? = some l[i] := List.getElem?_eq_getElem hia
  refine awp_seq ?_
  refine awp_block ?_
  refine awp_seq ?_
  refine awp_run rfl (by simp only [fwA, ↓reduceIte, Nat.reduceAdd, Nat.reduceMul, Nat.reduceEqDiff, Nat.reduceLT, Nat.reduceLeDiff, reduceCtorEq] <;> rfl) ?_
  refine awp_seq ?_
  refine awp_region rfl ?_
  refine aops_run 5 (by simp only [fwA, ↓reduceIte, Nat.reduceAdd, Nat.reduceMul, Nat.reduceEqDiff, Nat.reduceLT, Nat.reduceLeDiff, reduceCtorEq, el22, ti24, Tm.fw, List.getElem?_map, ga, Option.map_some, Int.natCast_nonneg] <;> rfl) ?_
  refine aops_call rfl rfl rfl he ((hS i l[i] Hi ga hSi).lenLe.mono fun p H' hp => ?_)
  obtain ⟨hp, hn'⟩ := hp
  rcases hp with ⟨rfl, hS'⟩ | ⟨rfl, hZ⟩
  · refine awp_cond (b := false) (by simp only [fwA, ↓reduceIte, Nat.reduceAdd, Nat.reduceMul, Nat.reduceEqDiff, Nat.reduceLT, Nat.reduceLeDiff, reduceCtorEq] <;> rfl) ?_
    refine awp_skip ?_
    refine awp_run rfl (by simp only [fwA, ↓reduceIte, Nat.reduceAdd, Nat.reduceMul, Nat.reduceEqDiff, Nat.reduceLT, Nat.reduceLeDiff, reduceCtorEq] <;> rfl) ?_
    exact ⟨(i + 1, H'), by dsimp only; omega, ⟨by dsimp only; omega, hS', by dsimp only; omega⟩, by rw [wrapS i (by omega)]; rfl, rfl, rfl⟩
  · refine awp_cond (b := true) (by simp only [fwA, ↓reduceIte, Nat.reduceAdd, Nat.reduceMul, Nat.reduceEqDiff, Nat.reduceLT, Nat.reduceLeDiff, reduceCtorEq] <;> rfl) ?_
    refine awp_bd fun hbd' => ?_
    refine awp_seq (awp_run rfl (by simp only [fwA, ↓reduceIte, Nat.reduceAdd, Nat.reduceMul, Nat.reduceEqDiff, Nat.reduceLT, Nat.reduceLeDiff, reduceCtorEq] <;> rfl) (awp_ret ?_))
    simp only [Post.block, Post.then]
    refine calls_at (p := .int .i64 (i : Int)) (.inl rfl) hbd' ?_ rfl (by omega) ⟨by omega, .inr ⟨i, rfl, hZ⟩⟩
    rfl
theorem c24 (Γ : Nat → PV) (f : Nat) (he : Enters Tryz.prog f) (caps : List PV) (l : List Tm) (S Z : Nat → List Blk → Prop)
    (hS : ∀ (i : Nat) (x : Tm) (H : List Blk), l[i]? = some x → S i H → ACalls Tryz.prog Γ f ([.agg (Tm.enc x)] ++ caps) H (fun p H' => p = .bool false ∧ S (i + 1) H' ∨ p = .bool true ∧ Z i H')) (H : List Blk) (h0 : S 0 H) :
    ACalls Tryz.prog Γ 24 [.vec (l.map Tm.enc) false, .func (.func f) [] caps] H (fun p H' => H.length ≤ H'.length ∧ (p = .bool false ∧ S l.length H' ∨ p = .bool true ∧ ∃ i : Nat, Z i H')) := by
  refine acalls_of_awp Tryz.func24 rfl (by simp [Tryz.f24]) fun hbd => ?_
  refine awp_seq ?_
  refine awp_run rfl (by simp only [fwA, ↓reduceIte, Nat.reduceAdd, Nat.reduceMul, Nat.reduceEqDiff, Nat.reduceLT, Nat.reduceLeDiff, reduceCtorEq] <;> rfl) ?_
  refine awp_seq ?_
  refine awp_region rfl ?_
  refine aops_run 2 (by simp only [fwA, ↓reduceIte, Nat.reduceAdd, Nat.reduceMul, Nat.reduceEqDiff, Nat.reduceLT, Nat.reduceLeDiff, reduceCtorEq] <;> rfl) ?_
  refine aops_call rfl rfl rfl en51 ((c51 Γ f he caps l S Z hS H h0).mono fun p H' hp => ?_)
  obtain ⟨hn, hp⟩ := hp
  rcases hp with ⟨rfl, hS'⟩ | ⟨i, rfl, hZ⟩
  · refine aops_run 2 (by simp only [fwA, ↓reduceIte, Nat.reduceAdd, Nat.reduceMul, Nat.reduceEqDiff, Nat.reduceLT, Nat.reduceLeDiff, reduceCtorEq] <;> rfl) ?_
    refine awp_bd fun hbd' => ?_
    refine awp_ret ?_
    exact calls_at (p := .bool false) (.inl rfl) hbd' rfl rfl hn ⟨hn, .inl ⟨rfl, hS'⟩⟩
  · refine aops_run 2 (by simp only [fwA, ↓reduceIte, Nat.reduceAdd, Nat.reduceMul, Nat.reduceEqDiff, Nat.reduceLT, Nat.reduceLeDiff, reduceCtorEq, ge_iff_le, Int.natCast_nonneg, decide_true] <;> rfl) ?_
    refine awp_bd fun hbd' => ?_
    refine awp_ret ?_
    exact calls_at (p := .bool true) (.inl rfl) hbd' rfl rfl hn ⟨hn, .inr ⟨rfl, i, hZ⟩⟩
theorem c22 (Γ : Nat → PV) (hΓ : Tab Γ) : ∀ (t : Tm) (H : List Blk) (b : Nat), H[b]? = some (.box [.func (.func 22) [] [.ptr b 0]]) → ACalls Tryz.prog Γ 22 [.agg t.enc, .ptr b 0] H (fun p H' => p = .bool (!decide (Nodes t)) ∧ H' = H) := by
  refine Tm.ind fun t ih => fun H b hb => ?_
  refine acalls_of_awp Tryz.func22 rfl (by simp [Tryz.f22]) fun hbd => ?_
  have hbl := (List.getElem?_eq_some_iff.1 hb).1
  refine awp_seq ?_
  refine awp_run rfl (by simp only [fwA, ↓reduceIte, Nat.reduceAdd, Nat.reduceMul, Nat.reduceEqDiff, Nat.reduceLT, Nat.reduceLeDiff, reduceCtorEq, Tm.fw] <;> rfl) ?_
  refine awp_seq ?_
  refine awp_region rfl ?_
  refine aops_run 1 (by simp only [fwA, ↓reduceIte, Nat.reduceAdd, Nat.reduceMul, Nat.reduceEqDiff, Nat.reduceLT, Nat.reduceLeDiff, reduceCtorEq, ti24, Tm.fw] <;> rfl) ?_
  refine aops_fn rfl rfl rfl en23 (c23 Γ hΓ t) ?_
  by_cases hn : nodeP t
  rotate_left
  · refine aops_run 8 (by simp only [fwA, ↓reduceIte, Nat.reduceAdd, Nat.reduceMul, Nat.reduceEqDiff, Nat.reduceLT, Nat.reduceLeDiff, reduceCtorEq, hn, decide_false, Bool.not_false] <;> rfl) ?_
    exact awp_ret (calls_end (p := .bool (!decide (Nodes t))) _ (.inl rfl) hbd (by rw [decide_eq_false (fun e => hn (Nodes.node e))]; rfl) rfl ⟨rfl, rfl⟩)
  have hb2 : (H ++ [Blk.box t.enc])[b]? = some (.box [.func (.func 22) [] [.ptr b 0]]) := by rw [List.getElem?_append_left hbl]; exact hb
  refine aops_run 5 (by simp only [fwA, ↓reduceIte, Nat.reduceAdd, Nat.reduceMul, Nat.reduceEqDiff, Nat.reduceLT, Nat.reduceLeDiff, reduceCtorEq, fl24_3, ti22, ti42, Tm.fw, hn, decide_true, Bool.not_true, hb2] <;> rfl) ?_
  refine aops_if rfl rfl rfl (os_call rfl rfl en24 ((c24 Γ 22 en22 [.ptr b 0] t.kids (fun i H' => H' = H ++ [.box t.enc] ∧ ∀ k ∈ t.kids.take i, Nodes k) (fun _ H' => H' = H ++ [.box t.enc] ∧ ∃ k ∈ t.kids, ¬ Nodes k) (fun i x H2 hx hs => ?_) _ ⟨rfl, fun k hk => by cases hk⟩).mono fun p H' hp => ?_))
  · obtain ⟨rfl, hs⟩ := hs
    refine (ih x (List.mem_of_getElem? hx) _ b hb2).mono fun p H' hp => ?_
    obtain ⟨rfl, rfl⟩ := hp
    by_cases hx' : Nodes x
    · refine .inl ⟨by rw [decide_eq_true hx']; rfl, rfl, fun k hk => ?_⟩
      rw [List.take_add_one, hx] at hk
      rcases List.mem_append.1 hk with h | h
      · exact hs k h
      · simp only [Option.toList_some, List.mem_singleton] at h; exact h ▸ hx'
    · exact .inr ⟨by rw [decide_eq_false hx']; rfl, rfl, x, List.mem_of_getElem? hx, hx'⟩
  · rcases hp.2 with ⟨rfl, rfl, hs⟩ | ⟨rfl, i, rfl, k, hk, hk'⟩
    · refine aops_run 2 (by simp only [fwA, ↓reduceIte, Nat.reduceAdd, Nat.reduceMul, Nat.reduceEqDiff, Nat.reduceLT, Nat.reduceLeDiff, reduceCtorEq] <;> rfl) ?_
      rw [List.take_length] at hs
      exact awp_ret (calls_end (p := .bool (!decide (Nodes t))) _ (.inl rfl) hbd (by rw [decide_eq_true (Nodes.mk t hn hs)]; rfl) rfl ⟨rfl, rfl⟩)
    · refine aops_run 2 (by simp only [fwA, ↓reduceIte, Nat.reduceAdd, Nat.reduceMul, Nat.reduceEqDiff, Nat.reduceLT, Nat.reduceLeDiff, reduceCtorEq] <;> rfl) ?_
      exact awp_ret (calls_end (p := .bool (!decide (Nodes t))) _ (.inl rfl) hbd (by rw [decide_eq_false (fun e => hk' (Nodes.kids e k hk))]; rfl) rfl ⟨rfl, rfl⟩)
theorem c18 (Γ : Nat → PV) (t : Tm) (hw : t.w ≤ 4611686018427387904) : Gives Tryz.prog Γ 18 [.agg t.enc] (.bool (decide (RightT t))) := by
  refine fn_of_awp Tryz.func18 rfl (by simp [Tryz.f18]) rfl fun H => ?_
  refine awp_seq ?_
  refine awp_run rfl (by simp only [fwA, ↓reduceIte, Nat.reduceAdd, Nat.reduceMul, Nat.reduceEqDiff, Nat.reduceLT, Nat.reduceLeDiff, reduceCtorEq] <;> rfl) ?_
  refine awp_seq ?_
  refine awp_region rfl ?_
  refine aops_run 1 (by simp only [fwA, ↓reduceIte, Nat.reduceAdd, Nat.reduceMul, Nat.reduceEqDiff, Nat.reduceLT, Nat.reduceLeDiff, reduceCtorEq, ti35, Tm.fw] <;> rfl) ?_
  refine aops_fn rfl rfl rfl en38 (c38 Γ t hw) ?_
  by_cases h1 : (t.dep : Int) ≤ 200
  rotate_left
  · refine aops_run 11 (by simp only [fwA, ↓reduceIte, Nat.reduceAdd, Nat.reduceMul, Nat.reduceEqDiff, Nat.reduceLT, Nat.reduceLeDiff, reduceCtorEq, ti35, Tm.fw, h1, decide_false] <;> rfl) ?_
    exact awp_ret (gives_end (.inl rfl) _ (by rw [decide_eq_false (fun e => h1 (by have := e.1; omega))]; rfl))
  refine aops_run 3 (by simp only [fwA, ↓reduceIte, Nat.reduceAdd, Nat.reduceMul, Nat.reduceEqDiff, Nat.reduceLT, Nat.reduceLeDiff, reduceCtorEq, ti35, Tm.fw, h1, decide_true] <;> rfl) ?_
  refine aops_fnIf rfl rfl rfl rfl rfl en39 (c39 Γ t hw) ?_
  by_cases h2 : (t.w : Int) ≤ 10000
  rotate_left
  · refine aops_run 7 (by simp only [fwA, ↓reduceIte, Nat.reduceAdd, Nat.reduceMul, Nat.reduceEqDiff, Nat.reduceLT, Nat.reduceLeDiff, reduceCtorEq, ti35, Tm.fw, h2, decide_false] <;> rfl) ?_
    exact awp_ret (gives_end (.inl rfl) _ (by rw [decide_eq_false (fun e => h2 (by have := e.2.1; omega))]; rfl))
  refine aops_run 4 (by simp only [fwA, ↓reduceIte, Nat.reduceAdd, Nat.reduceMul, Nat.reduceEqDiff, Nat.reduceLT, Nat.reduceLeDiff, reduceCtorEq, ti35, Tm.fw, h2, decide_true] <;> rfl) ?_
  refine aops_fnIf rfl rfl rfl rfl rfl en40 (c40 Γ t) ?_
  refine aops_run 2 (by simp only [fwA, ↓reduceIte, Nat.reduceAdd, Nat.reduceMul, Nat.reduceEqDiff, Nat.reduceLT, Nat.reduceLeDiff, reduceCtorEq] <;> rfl) ?_
  exact awp_ret (gives_end (.inl rfl) _ (by rw [show decide (RightT t) = decide (Nodes t) from decide_eq_decide.2 ⟨fun h => h.2.2, fun h => ⟨by omega, by omega, h⟩⟩]; rfl))
theorem c13 (Γ : Nat → PV) (hΓ : Tab Γ) (t : Tm) (hw : t.w ≤ 4611686018427387904) : Gives Tryz.prog Γ 13 [.agg t.enc] (.bool (decide (RightT t))) := by
  refine fn_of_awp Tryz.func13 rfl (by simp [Tryz.f13]) rfl fun H => ?_
  refine awp_seq ?_
  refine awp_run rfl (by simp only [fwA, ↓reduceIte, Nat.reduceAdd, Nat.reduceMul, Nat.reduceEqDiff, Nat.reduceLT, Nat.reduceLeDiff, reduceCtorEq, Tm.fw] <;> rfl) ?_
  refine awp_seq ?_
  refine awp_run rfl (by simp only [fwA, ↓reduceIte, Nat.reduceAdd, Nat.reduceMul, Nat.reduceEqDiff, Nat.reduceLT, Nat.reduceLeDiff, reduceCtorEq, ti42] <;> rfl) ?_
  refine awp_seq ?_
  refine awp_run rfl (by simp only [fwA, ↓reduceIte, Nat.reduceAdd, Nat.reduceMul, Nat.reduceEqDiff, Nat.reduceLT, Nat.reduceLeDiff, reduceCtorEq, ti42] <;> rfl) ?_
  refine awp_heap (H' := H ++ [.box t.enc, .box [.func (.func 22) [] [.ptr (H.length + 1) 0]]]) (by simp) ?_
  refine awp_seq ?_
  refine awp_region rfl ?_
  refine aops_run 1 (by simp only [fwA, ↓reduceIte, Nat.reduceAdd, Nat.reduceMul, Nat.reduceEqDiff, Nat.reduceLT, Nat.reduceLeDiff, reduceCtorEq, ti24, Tm.fw] <;> rfl) ?_
  refine aops_fn rfl rfl rfl en25 (c25 Γ t hw) ?_
  by_cases h1 : (t.dep : Int) ≤ 200
  rotate_left
  · refine aops_run 13 (by simp only [fwA, ↓reduceIte, Nat.reduceAdd, Nat.reduceMul, Nat.reduceEqDiff, Nat.reduceLT, Nat.reduceLeDiff, reduceCtorEq, ti24, Tm.fw, h1, decide_false] <;> rfl) ?_
    exact awp_ret (gives_end (.inl rfl) _ (by rw [decide_eq_false (fun e => h1 (by have := e.1; omega))]; rfl))
  refine aops_run 3 (by simp only [fwA, ↓reduceIte, Nat.reduceAdd, Nat.reduceMul, Nat.reduceEqDiff, Nat.reduceLT, Nat.reduceLeDiff, reduceCtorEq, ti24, Tm.fw, h1, decide_true] <;> rfl) ?_
  refine aops_fnIf rfl rfl rfl rfl rfl en26 (c26 Γ t hw) ?_
  by_cases h2 : (t.w : Int) ≤ 10000
  rotate_left
  · refine aops_run 9 (by simp only [fwA, ↓reduceIte, Nat.reduceAdd, Nat.reduceMul, Nat.reduceEqDiff, Nat.reduceLT, Nat.reduceLeDiff, reduceCtorEq, ti24, Tm.fw, h2, decide_false] <;> rfl) ?_
    exact awp_ret (gives_end (.inl rfl) _ (by rw [decide_eq_false (fun e => h2 (by have := e.2.1; omega))]; rfl))
  refine aops_run 5 (by simp only [fwA, ↓reduceIte, Nat.reduceAdd, Nat.reduceMul, Nat.reduceEqDiff, Nat.reduceLT, Nat.reduceLeDiff, reduceCtorEq, ti42, ti24, Tm.fw, h2, decide_true] <;> rfl) ?_
  refine aops_if rfl rfl rfl (os_call rfl rfl en22 ((c22 Γ hΓ t _ (H.length + 1) (by simp)).mono fun p H' hp => ?_))
  obtain ⟨rfl, rfl⟩ := hp
  refine aops_run 3 (by simp only [fwA, ↓reduceIte, Nat.reduceAdd, Nat.reduceMul, Nat.reduceEqDiff, Nat.reduceLT, Nat.reduceLeDiff, reduceCtorEq, Bool.not_not] <;> rfl) ?_
  exact awp_ret (gives_end (.inl rfl) _ (by rw [show decide (RightT t) = decide (Nodes t) from decide_eq_decide.2 ⟨fun h => h.2.2, fun h => ⟨by omega, by omega, h⟩⟩]; rfl))
end Go.Proofs.YtddnigahjahkbaaGreatDoor
namespace Go.Proofs.YtddnigahjahkbaaGreatDoor.Fw
set_option linter.unusedVariables false
set_option linter.unusedSimpArgs false
set_option maxRecDepth 100000
open Go.RowKit
open Go.Sort (putCells putRow mapBlock onCells)
theorem Sim.drawn {Γ : Nat → PV} {w0 w : World} {G : Ghost} {H : List Blk} (h : Sim Γ w0 G H w) (n : Nat) : Sim Γ w0 G H (Sort.ahead w n) :=
  h.grown ⟨rfl, rfl, rfl, Nat.le_refl _, fun _ _ => rfl⟩
theorem Sim.rowCells {Γ : Nat → PV} {w0 w : World} {G : Ghost} {H : List Blk} {b k sz : Nat} {cs : List PV} {v : Value} (h : Sim Γ w0 G H w) (hb : H[b]? = some (.row sz cs)) (hlen : cs.length = k * sz) (hv : Rep G H.length (.row b 0 k sz) v) :
    ∃ ad cap, v = .slice ad k cap ∧ (k = 0 ∨ (ad = some ⟨(G.info b).blk, 0, none⟩ ∧ (G.info b).sub = 0 ∧ 0 < (G.info b).size ∧ (G.info b).blk < w.heap.size ∧
      ∀ (j : Nat) c, cs[j]? = some c → ∃ u, w.cell? ⟨(G.info b).blk, j, none⟩ = some u ∧ w.frozen? ⟨(G.info b).blk, j, none⟩ = false ∧ Rep G H.length c u ∧ u.oneCell' = true)) := by
  obtain ⟨ad, cap, rfl, _, _, h3, h4⟩ := hv.row_inv
  refine ⟨ad, cap, rfl, ?_⟩
  obtain rfl | hk := Nat.eq_zero_or_pos k
  · exact .inl rfl
  obtain ⟨k1, k2, k3, k4, k5, k6⟩ := h.blk b _ hb
  obtain ⟨q1, q2⟩ := h4 (by omega)
  have q2' : (G.info b).sub ≤ 0 ∧ ad = some ⟨(G.info b).blk, 0 - (G.info b).sub, none⟩ := by
    rcases q2 with ⟨q2, q3, q4⟩ | ⟨q2, _⟩
    · exact ⟨q2, q3⟩
    · omega
  obtain ⟨q2, q3⟩ := q2'
  have hpos : 0 < k * sz := Nat.mul_pos hk k3
  obtain ⟨kz, kl⟩ | ⟨hp, C, e, k7, k8, k9, k10⟩ := k6
  · omega
  have hs0 : (G.info b).sub = 0 := by omega
  refine .inr ⟨by rw [q3]; simp, hs0, hp, (h.own b _ hb (by simpa [Blk.live] using hp)).2.1, fun j c hc => ?_⟩
  have hj := (List.getElem?_eq_some_iff.1 hc).1
  have hjC : j < C.size := by omega
  obtain ⟨g1, g2⟩ := k10 j c C[j] (by rw [hs0, Nat.zero_add]; exact hc) (Array.getElem?_eq_getElem hjC)
  refine ⟨C[j], ?_, ?_, g1, g2⟩
  · simp [World.cell?, k7, hjC]
  · simp [World.frozen?, k7]
end Go.Proofs.YtddnigahjahkbaaGreatDoor.Fw
namespace Go.Proofs.YtddnigahjahkbaaGreatDoor.Fw
set_option linter.unusedVariables false
set_option linter.unusedSimpArgs false
set_option maxRecDepth 100000
open Go.RowKit
section
variable {P : Program} {Γ : Nat → PV} {o : Oper} {A : List (Nat × PV)} {H : List Blk} {K : PV → List Blk → Prop}
end
end Go.Proofs.YtddnigahjahkbaaGreatDoor.Fw
namespace Go.Proofs.YtddnigahjahkbaaGreatDoor.Fw
set_option linter.unusedVariables false
set_option linter.unusedSimpArgs false
set_option maxRecDepth 100000
open Go.RowKit
section
variable {X : Type} {enc : X → List PV} {sz : Nat}
theorem flat_take (h : ∀ x, (enc x).length = sz) : ∀ (l : List X) (i : Nat), ((l.map enc).flatten).take (i * sz) = ((l.take i).map enc).flatten
  | [], i => by simp
  | x :: l, 0 => by simp
  | x :: l, i + 1 => by
    rw [List.map_cons, List.flatten_cons, show (i + 1) * sz = (enc x).length + i * sz by rw [h, Nat.add_mul]; omega, List.take_length_add_append]
    rw [flat_take h l i]; rfl
variable {P : Program} {Γ : Nat → PV} {o : Oper} {A : List (Nat × PV)} {H : List Blk} {K : PV → List Blk → Prop}
variable {ops : Array Oper} {cls : List Nat} {n0 : View} {KD : List (Nat × PV) → List Blk → Prop} {j : Nat} {rest : List (Nat × Oper)}
end
def RowIn (H0 : List Blk) (sz k : Nat) (cs : List PV) (p : PV) (H' : List Blk) : Prop := ∃ b L, p = .row b 0 k sz ∧ H' = H0 ++ L ∧ H0.length ≤ b ∧ H'[b]? = some (.row sz cs)
end Go.Proofs.YtddnigahjahkbaaGreatDoor.Fw
namespace Go.Proofs.YtddnigahjahkbaaGreatDoor
set_option linter.unusedVariables false
set_option linter.unusedSimpArgs false
set_option maxRecDepth 100000
open Go.RowKit Fw
section
variable {P : Program} {Γ : Nat → PV} {ops : Array Oper} {cls : List Nat} {n0 : View}
theorem srcOf_one {H : List Blk} {sz : Nat} {e : List PV} {f : Bool} : srcOf H sz (.vec [e] f) = some e := by simp [srcOf]
theorem os_push {X : Type} {enc : X → List PV} {sz : Nat} (hE : ∀ x, (enc x).length = sz) {o : Oper} {K : PV → List Blk → Prop} {A : List (Nat × PV)} {H : List Blk} {x y : Operand} {t tx e e' : TypeId} {ti : TI} {b k : Nat} {l : List X} {z : X} {f : Bool}
    (ho : o.op = .call { callee := .builtin .append, args := #[x, y], argTypes := #[t, tx] }) (ht : P.underlying t = some (.slice e)) (he : tiOf P e = some ti) (hti : ti.size = sz) (htx : P.underlying tx = some (.slice e')) (hx : ev Γ A x = .row b 0 k sz) (hbk : H[b]? = some (.row sz ((l.map enc).flatten))) (hk' : k = l.length)
    (hy : ev Γ A y = .vec [enc z] f) (hbd : (k + 1) * ti.bytes ≤ 140737488355328) (hbd' : k + 1 ≤ 9223372036854775807)
    (hk : K (.row b 0 (k + 1) sz) (H.set b (.row sz (((l ++ [z]).map enc).flatten)))) : OStep P Γ o A H K := by
  subst hti
  refine os_appendR (n := 1) ho ht he htx (.inl ⟨_, rfl⟩) hx hbk (by rw [flat_len hE, hk', Nat.zero_add]) (by rw [hy]; exact srcOf_one) (fun es f' h e he => by
    rw [hy] at h
    cases h
    rw [List.mem_singleton] at he
    subst he; exact hE z) (by rw [hy]; rfl) hbd hbd' ?_
  rw [List.map_append, List.flatten_append] at hk
  simpa using hk
theorem aops_push {X : Type} {enc : X → List PV} {sz : Nat} (hE : ∀ x, (enc x).length = sz) {o : Oper} {Q : List (Nat × PV) → List Blk → Prop} {rest : List Oper} {A : List (Nat × PV)} {H H' : List Blk} {x y : Operand} {t tx e e' : TypeId} {ti : TI} {b k : Nat} {l : List X} {z : X} {f : Bool}
    (ho : o.op = .call { callee := .builtin .append, args := #[x, y], argTypes := #[t, tx] }) (hg : o.guard = none) (ht : P.underlying t = some (.slice e)) (he : tiOf P e = some ti) (hti : ti.size = sz) (htx : P.underlying tx = some (.slice e')) (hx : ev Γ A x = .row b 0 k sz) (hbk : H[b]? = some (.row sz ((l.map enc).flatten))) (hk' : k = l.length)
    (hy : ev Γ A y = .vec [enc z] f) (hbd : (k + 1) * ti.bytes ≤ 140737488355328) (hbd' : k + 1 ≤ 9223372036854775807) (hH : H.set b (.row sz (((l ++ [z]).map enc).flatten)) = H')
    (hk : AOps P Γ ops Q rest (aput A o.dst (.row b 0 (k + 1) sz)) H') : AOps P Γ ops Q (o :: rest) A H := by
  subst hH
  exact aops_one hg (os_push hE ho ht he hti htx hx hbk hk' hy hbd hbd' hk)
theorem dops_push {X : Type} {enc : X → List PV} {sz : Nat} (hE : ∀ x, (enc x).length = sz) {i : Nat} {o : Oper} {K : List (Nat × PV) → List Blk → Prop} {rest : List (Nat × Oper)} {A : List (Nat × PV)} {H H' : List Blk} {x y : Operand} {t tx e e' : TypeId} {ti : TI} {b k : Nat} {l : List X} {z : X} {f : Bool}
    (ho : o.op = .call { callee := .builtin .append, args := #[x, y], argTypes := #[t, tx] }) (hw : wantA ops A o = some true) (hc : cls.getD i 0 = 2) (ht : P.underlying t = some (.slice e)) (he : tiOf P e = some ti) (hti : ti.size = sz) (htx : P.underlying tx = some (.slice e')) (hx : ev Γ A x = .row b 0 k sz) (hbk : H[b]? = some (.row sz ((l.map enc).flatten))) (hk' : k = l.length)
    (hy : ev Γ A y = .vec [enc z] f) (hbd : (k + 1) * ti.bytes ≤ 140737488355328) (hbd' : k + 1 ≤ 9223372036854775807) (hH : H.set b (.row sz (((l ++ [z]).map enc).flatten)) = H')
    (hk : DOps P Γ ops cls n0 K rest (aput A o.dst (.row b 0 (k + 1) sz)) H') : DOps P Γ ops cls n0 K ((i, o) :: rest) A H := by
  subst hH
  exact dops_turns _ hw hc (fun A' hev => by
    have ex := hev x (call_ops ho (by simp))
    have ey := hev y (call_ops ho (by simp))
    exact os_push hE ho ht he hti htx (ex.trans hx) hbk hk' (ey.trans hy) hbd hbd' ⟨rfl, rfl⟩) hk
theorem dops_call3 {i : Nat} {o : Oper} {K : List (Nat × PV) → List Blk → Prop} {rest : List (Nat × Oper)} {A : List (Nat × PV)} {H H' : List Blk} {x : Operand} {args : Array Operand} {ts : Array TypeId} {f : FuncId} {fs cs : List PV} {p : PV}
    (ho : o.op = .call { callee := .value x, args := args, argTypes := ts }) (hw : wantA ops A o = some true) (hc : cls.getD i 0 = 3) (hx : ev Γ A x = .func (.func f) fs cs) (he : Enters P f)
    (h : ACalls P Γ f (fs ++ args.toList.map (ev Γ A) ++ cs) H (fun q H1 => q = p ∧ H1 = H')) (ht : n0.vw H' = n0.vw H) (hk : DOps P Γ ops cls n0 K rest (aput A o.dst p) H') : DOps P Γ ops cls n0 K ((i, o) :: rest) A H :=
  dops_makes p hw hc ht (fun A' hev => by
    have hops : ∀ y, y = x ∨ y ∈ args → ev Γ A' y = ev Γ A y := fun y hy => hev y (by
      rw [ho]
      simp only [Op.operands, Call.operands, Array.mem_append]
      rcases hy with rfl | hy
      · exact .inl (by simp)
      · exact .inr hy)
    refine os_call ho (by rw [hops x (.inl rfl)]; exact hx) he ?_
    rw [List.map_congr_left (l := args.toList) fun y hy => hops y (.inr (by simpa using hy))]
    exact h) hk
theorem vw_above {v : View} (H : List Blk) {b : Nat} (B : Blk) (h : v.n ≤ b) : v.vw (H.set b B) = v.vw H := by
  unfold View.vw
  have : (H.set b B).take v.n = H.take v.n := by rw [List.take_set_of_le h]
  rw [this]
end
end Go.Proofs.YtddnigahjahkbaaGreatDoor
