/- The framework, eighteenth part: reading the arguments; what a law's row asks. -/
import Derived.Test.YtinedfjknhahmaaDoorFwQ
import Derived.ProofKit
import Derived.OpenShut
namespace Go.Proofs.YtinedfjknhahmaaDoor.Fw
set_option linter.unusedVariables false
set_option linter.unusedSimpArgs false
open Go.RowKit Go.ChangeShapes Go.WideShapes

/-- All that the world holds, never turned. -/
def ofW (W : World) : Ghost := { M := fun a => W.cell? a, info := fun _ => { blk := 0, len := 0, size := 0, sub := 0, isRow := false } }

theorem sim_ofW {Γ : Nat → PV} {W : World} (h : ∀ g, Rep (ofW W) 0 (Γ g) (.pointer (some ⟨g, 0, none⟩))) (ht : ∀ g cs, Γ g = .cptr cs → ∃ C e q, W.heap[g]? = some (.cells C e q) ∧ C.size = cs.length) : Sim Γ W (ofW W) [] W :=
  ⟨Below.refl _ _, fun _ _ h => h, fun b B hB => by simp at hB, fun b B hB => by simp at hB, fun b b' B B' hB => by simp at hB, h, ht⟩

/-- What is read at a type is one of X, told by enc. -/
def DecAt (P : Program) (W : World) (fuel : Nat) (t : TypeId) {X : Type} (enc : X → List PV) (good : X → Prop) : Prop :=
  ∀ (Hh : Type) (e : TypeId × Value → Hh) (cs : List Value) (y : DataW Hh × List MemPlace), DataW.trod e P W 0 (fun _ => true) true fuel t cs = some y → (y.1.weights P t).all (· ≤ reachBytes) = true → ∃ x, good x ∧ Reps (ofW W) 0 (enc x) cs ∧ ∀ u ∈ cs, u.oneCell' = true

section
variable {P : Program} {W : World} {n : Nat} {t : TypeId} {X Y : Type} {enc : X → List PV} {good : X → Prop}

theorem DecAt.zero : DecAt P W 0 t enc good := fun Hh e cs y h _ => by simp [DataW.trod] at h

theorem DecAt.weaken {good' : X → Prop} (h : DecAt P W n t enc good) (hg : ∀ x, good x → good' x) : DecAt P W n t enc good' := fun Hh e cs y hy hw =>
  let ⟨x, h1, h2, h3⟩ := h Hh e cs y hy hw; ⟨x, hg x h1, h2, h3⟩

theorem DecAt.map {enc' : Y → List PV} {good' : Y → Prop} (h : DecAt P W n t enc good) (g : X → Y) (he : ∀ x, enc' (g x) = enc x) (hg : ∀ x, good x → good' (g x)) : DecAt P W n t enc' good' := fun Hh e cs y hy hw =>
  let ⟨x, h1, h2, h3⟩ := h Hh e cs y hy hw; ⟨g x, hg x h1, by rw [he]; exact h2, h3⟩

theorem reps_one {G : Ghost} {m : Nat} {p : PV} {v : Value} (h : Rep G m p v) : Reps G m [p] [v] := Reps.cons h (Reps.nil _ _)

theorem dec_bool (ht : P.underlying t = some .bool) : DecAt P W n t (fun b : Bool => [.bool b]) (fun _ => True) := fun Hh e cs y h _ => by
  obtain ⟨b, rfl, rfl⟩ := DataW.trod_bool ht h
  exact ⟨b, trivial, reps_one (.bool _ _), fun u hu => by simp at hu; subst hu; rfl⟩

theorem dec_int {k : IntKind} (ht : P.underlying t = some (.int k)) : DecAt P W n t (fun i : Int => [.int k i]) (fun i => (Lit.int k i).wf = true) := fun Hh e cs y h _ => by
  obtain ⟨b, rfl, rfl, hw⟩ := DataW.trod_int ht h
  exact ⟨b, hw, reps_one (.int _ _ _), fun u hu => by simp at hu; subst hu; rfl⟩

theorem dec_str (ht : P.underlying t = some .string) : DecAt P W n t (fun s : List UInt8 => [.str s]) (fun s => s.length ≤ reachBytes) := fun Hh e cs y h hwt => by
  obtain ⟨s, rfl, rfl, hw⟩ := DataW.trod_string ht h
  refine ⟨s.data.toList, by simpa [DataW.weights] using hwt, ?_, fun u hu => by simp at hu; subst hu; rfl⟩
  have hs : Rep (ofW W) 0 (.str s.data.toList) (.string ⟨s.data.toList.toArray⟩) := .str _ _ (by rw [Array.length_toList]; exact hw)
  exact reps_one (by simpa using hs)

theorem cell_spot {a : Addr} {v : Value} (h : W.cell? a = some v) : a.spot = none := by
  unfold World.cell? at h
  split at h
  · split at h
    · cases h
    · rename_i hs; simpa using hs
  · cases h

theorem cells_spec {a : Addr} {k : Nat} {ci : List Value} (h : W.cells? 0 a k = some ci) : ci.length = k ∧ ∀ j, j < k → W.cell? (a.add j) = ci[j]? := by
  obtain ⟨_, h1, h2⟩ := World.cells?_some h
  exact ⟨h1, h2⟩

theorem pick_list {Q : Nat → X → Prop} (m : Nat) (h : ∀ i, i < m → ∃ x, Q i x) : ∃ xs : List X, xs.length = m ∧ ∀ i x, xs[i]? = some x → Q i x := by
  induction m with
  | zero => exact ⟨[], rfl, fun i x h => by simp at h⟩
  | succ m ih =>
    obtain ⟨xs, h1, h2⟩ := ih fun i hi => h i (by omega)
    obtain ⟨x, hx⟩ := h m (by omega)
    refine ⟨xs ++ [x], by simp [h1], fun i y hy => ?_⟩
    by_cases hi : i < xs.length
    · rw [List.getElem?_append_left hi] at hy; exact h2 i y hy
    · have hi' : i = xs.length := by
        have := (List.getElem?_eq_some_iff.1 hy).1
        simp at this; omega
      subst hi'
      simp at hy
      subst hy
      rw [h1]; exact hx

theorem weightsAll_at {Hh : Type} {e : TypeId} {q : Nat → Bool} : ∀ {ds : List (DataW Hh)} {i : Nat} {d : DataW Hh}, (DataW.weightsAll P e ds).all q = true → ds[i]? = some d → (d.weights P e).all q = true
  | d :: ds, 0, _, h, hd => by
    cases hd
    simp only [DataW.weightsAll, List.all_append, Bool.and_eq_true] at h
    exact h.1
  | d :: ds, i + 1, _, h, hd => by
    simp only [DataW.weightsAll, List.all_append, Bool.and_eq_true] at h
    exact weightsAll_at (ds := ds) (i := i) h.2 (by simpa using hd)
  | [], _, _, _, hd => by simp at hd

theorem weightsEach_at {Hh : Type} {q : Nat → Bool} : ∀ {ts : List TypeId} {ds : List (DataW Hh)} {i : Nat} {t : TypeId} {d : DataW Hh}, (DataW.weightsEach P ts ds).all q = true → ts[i]? = some t → ds[i]? = some d → (d.weights P t).all q = true
  | t :: ts, d :: ds, 0, _, _, h, ht, hd => by
    cases ht; cases hd
    simp only [DataW.weightsEach, List.all_append, Bool.and_eq_true] at h
    exact h.1
  | t :: ts, d :: ds, i + 1, _, _, h, ht, hd => by
    simp only [DataW.weightsEach, List.all_append, Bool.and_eq_true] at h
    exact weightsEach_at (ts := ts) (ds := ds) (i := i) h.2 (by simpa using ht) (by simpa using hd)
  | [], _, _, _, _, _, ht, _ => by simp at ht
  | _ :: _, [], _, _, _, _, _, hd => by simp at hd

theorem dec_slice {e : TypeId} (ht : P.underlying t = some (.slice e)) (hsz : 0 < P.cellsOf e) (he : DecAt P W n e enc good) :
    DecAt P W (n + 1) t (fun xs : List X => [.vec (xs.map enc) false]) (fun xs => xs.length * P.bytesOf e ≤ reachBytes ∧ ∀ x ∈ xs, good x) := fun Hh en cs y h hwt => by
  rcases DataW.trod_slice ht h with ⟨rfl, rfl⟩ | ⟨a, len, cap, elems, rest, k, hk, rfl, rfl, hb, hl, hc, hlen, hel, hsp, hns⟩
  · exact ⟨[], ⟨by simp, fun x h => by cases h⟩, reps_one (.vec0 _ _ _), fun u hu => by simp at hu; subst hu; rfl⟩
  · obtain rfl : k = n := by omega
    simp only [DataW.weights, ht, List.all_cons, List.all_append, Bool.and_eq_true, decide_eq_true_eq, List.length_map] at hwt
    obtain ⟨hw1, hw2, _⟩ := hwt
    have hget : ∀ i, i < len → ∃ x, good x ∧ ∃ ci, W.cells? 0 (a.add (i * P.cellsOf e)) (P.cellsOf e) = some ci ∧ Reps (ofW W) 0 (enc x) ci ∧ ∀ u ∈ ci, u.oneCell' = true := fun i hi => by
      have h1 := hel i hi
      rw [List.getElem?_eq_getElem (by omega)] at h1
      obtain ⟨ci, h2, h3⟩ := Option.bind_eq_some_iff.1 h1
      obtain ⟨x, h4, h5, h6⟩ := he Hh en ci _ h3 (weightsAll_at (i := i) hw2 (by rw [List.getElem?_map, List.getElem?_eq_getElem (by omega)]; rfl))
      exact ⟨x, h4, ci, h2, h5, h6⟩
    obtain ⟨xs, h1, h2⟩ := pick_list len hget
    refine ⟨xs, ⟨by rw [h1, ← hlen]; exact Nat.le_trans (Nat.mul_le_mul_right _ (Nat.le_add_right _ _)) hw1, fun x hx => ?_⟩, reps_one ?_, fun u hu => by simp at hu; subst hu; rfl⟩
    · obtain ⟨i, hi⟩ := List.mem_iff_getElem?.1 hx
      exact (h2 i x hi).1
    · by_cases hcap : cap = 0
      · have h0 : len = 0 := by omega
        subst h0 hcap
        have : xs = [] := List.eq_nil_of_length_eq_zero h1
        subst this
        exact .vec0 _ _ _
      · have hspot : a.spot = none := by
          by_cases h0 : 0 < len
          · obtain ⟨x, _, ci, hci, _⟩ := hget 0 h0
            obtain ⟨hcl, hcc⟩ := cells_spec hci
            have := hcc 0 hsz
            rw [List.getElem?_eq_getElem (by omega)] at this
            have := cell_spot this
            simpa [Addr.add] using this
          · have h00 : len = 0 := by omega
            subst h00
            have h1 := (hsp rfl).2 0 (by omega)
            have h1l := (hsp rfl).1
            rw [List.getElem?_eq_getElem (by omega)] at h1
            obtain ⟨ci, h2, h3⟩ := Option.bind_eq_some_iff.1 h1
            obtain ⟨hcl, hcc⟩ := cells_spec h2
            have := hcc 0 hsz
            rw [List.getElem?_eq_getElem (by omega)] at this
            have := cell_spot this
            simpa [Addr.add] using this
        obtain ⟨ab, ao, asp⟩ := a
        simp only at hspot
        subst hspot
        have key : ∀ (i j : Nat) el c, (xs.map enc)[i]? = some el → el[j]? = some c → j < P.cellsOf e ∧ ∃ u, W.cell? ⟨ab, ao + (i * P.cellsOf e + j), none⟩ = some u ∧ Rep (ofW W) 0 c u ∧ u.oneCell' = true := fun i j el c hi hj => by
          rw [List.getElem?_map] at hi
          obtain ⟨x, hx, rfl⟩ := Option.map_eq_some_iff.1 hi
          obtain ⟨_, ci, h3, h4, h5⟩ := h2 i x hx
          obtain ⟨hcl, hcc⟩ := cells_spec h3
          have hj' : j < ci.length := by rw [← h4.1]; exact (List.getElem?_eq_some_iff.1 hj).1
          have h6 := hcc j (by omega)
          rw [List.getElem?_eq_getElem hj'] at h6
          refine ⟨by omega, ci[j], ?_, h4.2 j c _ hj (List.getElem?_eq_getElem hj'), h5 _ (List.getElem_mem hj')⟩
          rw [← h6, Fw.add_at, Fw.add_at, Nat.add_assoc]
        have hvs : ∀ (i j : Nat) el c, (xs.map enc)[i]? = some el → el[j]? = some c → W.cell? ⟨ab, ao + (i * P.cellsOf e + j), none⟩ = some ((W.cell? ⟨ab, ao + (i * P.cellsOf e + j), none⟩).getD undef) := fun i j el c hi hj => by
          obtain ⟨_, u, h3, _⟩ := key i j el c hi hj
          rw [h3]; rfl
        have := Rep.vec (G := ofW W) 0 (xs.map enc) false ab ao (P.cellsOf e) cap (fun k => (W.cell? ⟨ab, ao + k, none⟩).getD undef) (by simp; unfold maxLen at hc; omega) (by simp; omega) (fun hf => by cases hf) (fun el hel => by
            obtain ⟨x, hx, rfl⟩ := List.mem_map.1 hel
            obtain ⟨i, hi⟩ := List.mem_iff_getElem?.1 hx
            obtain ⟨_, ci, h3, h4, _⟩ := h2 i x hi
            rw [h4.1]; exact (cells_spec h3).1) hvs (fun i j el c hi hj => by
            obtain ⟨_, u, h3, h4, _⟩ := key i j el c hi hj
            simp only [h3]; exact h4) (fun i j el c hi hj => by
            obtain ⟨_, u, h3, _, h5⟩ := key i j el c hi hj
            simp only [h3]; exact h5)
        rw [List.length_map, h1] at this
        exact this

/-- The fields of a struct from one on. -/
def DecF (P : Program) (W : World) (n : Nat) (fs : List Field) (off : Nat) {X : Type} (enc : X → List PV) (good : X → Prop) : Prop :=
  ∀ (Hh : Type) (e : TypeId × Value → Hh) (cs : List Value), (∀ f ∈ fs, ∃ y, DataW.trod e P W 0 (fun _ => true) true n f.type ((cs.drop f.offset).take (P.cellsOf f.type)) = some y ∧ (y.1.weights P f.type).all (· ≤ reachBytes) = true) → cs.length = off + (fs.map fun f => P.cellsOf f.type).sum →
    ∃ x, good x ∧ Reps (ofW W) 0 (enc x) (cs.drop off) ∧ ∀ u ∈ cs.drop off, u.oneCell' = true

theorem decF_last {f : Field} {off : Nat} (ho : f.offset = off) (h : DecAt P W n f.type enc good) : DecF P W n [f] off enc good := fun Hh e cs hf hl => by
  obtain ⟨y, hy, hw⟩ := hf f (by simp)
  obtain ⟨x, h1, h2, h3⟩ := h Hh e _ _ hy hw
  simp at hl
  have : (cs.drop f.offset).take (P.cellsOf f.type) = cs.drop off := by rw [ho, List.take_of_length_le (by simp; omega)]
  rw [this] at h2 h3
  exact ⟨x, h1, h2, h3⟩

theorem decF_cons {f : Field} {fs : List Field} {off off' : Nat} {enc' : Y → List PV} {good' : Y → Prop} (ho : f.offset = off) (ho' : off + P.cellsOf f.type = off') (h : DecAt P W n f.type enc good) (hs : DecF P W n fs off' enc' good') :
    DecF P W n (f :: fs) off (fun xy : X × Y => enc xy.1 ++ enc' xy.2) (fun xy => good xy.1 ∧ good' xy.2) := fun Hh e cs hf hl => by
  obtain ⟨y, hy, hw⟩ := hf f (by simp)
  obtain ⟨x, h1, h2, h3⟩ := h Hh e _ _ hy hw
  obtain ⟨x', k1, k2, k3⟩ := hs Hh e cs (fun g hg => hf g (by simp [hg])) (by simp at hl; omega)
  have hsplit : cs.drop off = (cs.drop off).take (P.cellsOf f.type) ++ cs.drop off' := by
    rw [← ho', ← List.drop_drop, List.take_append_drop]
  rw [ho] at h2 h3
  refine ⟨(x, x'), ⟨h1, k1⟩, by rw [hsplit]; exact Reps.append h2 k2, fun u hu => ?_⟩
  rw [hsplit] at hu
  rcases List.mem_append.1 hu with hu | hu
  · exact h3 u hu
  · exact k3 u hu

theorem dec_struct {fs : Array Field} (ht : P.underlying t = some (.struct fs)) (hs : (fs.toList.map fun f => P.cellsOf f.type).sum = P.cellsOf t) (h : DecF P W n fs.toList 0 enc good) : DecAt P W (n + 1) t enc good := fun Hh e cs y hy hw => by
  obtain ⟨xs, k, hk, rfl, hl, hlen, hf⟩ := DataW.trod_struct ht hy
  simp only [DataW.weights, ht] at hw
  obtain rfl : k = n := by omega
  have := h Hh e cs (fun f hf' => by
    obtain ⟨i, hi⟩ := List.mem_iff_getElem?.1 hf'
    have h1 := hf i f (by simpa using hi)
    have hi' : i < xs.length := by rw [hlen]; simpa using (List.getElem?_eq_some_iff.1 hi).1
    exact ⟨xs[i], by rw [h1, List.getElem?_eq_getElem hi'], weightsEach_at (i := i) hw (by rw [List.getElem?_map, hi]; rfl) (by rw [List.getElem?_map, List.getElem?_eq_getElem hi']; rfl)⟩) (by rw [hs, hl]; simp)
  simpa using this

/-- An argument that is a struct. -/
theorem arg_struct {Hh : Type} {e : TypeId × Value → Hh} {fs : Array Field} {v : Value} {d : DataW Hh} {ps : List MemPlace} (ht : P.underlying t = some (.struct fs)) (hval : Value.okWide P W .any 0 t v) (hd : DataW.Trod e P W 0 (fun _ => true) true t v d ps) (hw : (d.weights P t).all (· ≤ reachBytes) = true)
    (h : ∀ n, DecAt P W n t enc good) : ∃ x, good x ∧ Rep (ofW W) 0 (.agg (enc x)) v := by
  obtain ⟨cs, rfl, hs, _⟩ : ∃ cs, v = .agg cs ∧ cs.size = P.cellsOf t ∧ Row.okWide P W .any 0 t cs := by
    simpa [Value.okWide, ht] using hval
  obtain ⟨fuel, hf⟩ := hd
  obtain ⟨x, h1, h2, h3⟩ := h fuel Hh e _ _ hf hw
  simp only [Value.cells] at h2 h3
  exact ⟨x, h1, .agg _ _ _ (by simpa using h2.1) (fun i c v hc hv => h2.2 i c v hc (by simpa using hv)) fun i v hv => h3 v (List.mem_of_getElem? (by simpa using hv))⟩

/-- An argument of one cell. -/
theorem arg_cell {Hh : Type} {e : TypeId × Value → Hh} {v : Value} {d : DataW Hh} {ps : List MemPlace} {one : X → PV} (hc : v.cells = #[v]) (hd : DataW.Trod e P W 0 (fun _ => true) true t v d ps) (hw : (d.weights P t).all (· ≤ reachBytes) = true)
    (h : ∀ n, DecAt P W n t (fun x => [one x]) good) : ∃ x, good x ∧ Rep (ofW W) 0 (one x) v := by
  obtain ⟨fuel, hf⟩ := hd
  obtain ⟨x, h1, h2, h3⟩ := h fuel Hh e _ _ hf hw
  rw [hc] at h2
  exact ⟨x, h1, h2.2 0 _ v rfl rfl⟩

end

theorem kept_of_below {W W' : World} (hb : Below W.heap.size W W') (may : MemPlace → Prop) : W.keptBut W' may := by
  refine ⟨hb.os, hb.output, fun i hi => ?_⟩
  rw [hb.block i hi]
  cases h : W.heap[i]? with
  | none => rfl
  | some o =>
    cases o with
    | cells c t fr => exact ⟨rfl, rfl, rfl, fun _ _ => rfl⟩
    | map es clock => exact .inr ⟨rfl, rfl⟩
    | _ => rfl

theorem trodAll_below {H : Type} {enc : TypeId × Value → H} {P : Program} (hl : laidOutB P = true) {W W' : World} (hb : Below W.heap.size W W') : ∀ {ts : List TypeId} {vs : List Value} {ds : List (DataW H)} {ps : List MemPlace},
    (ts.all fun t => P.readableRec t && decide (t < P.types.size)) = true → DataW.TrodAll enc P W 0 (fun _ => true) true ts vs ds ps → (∀ p ∈ ps, p.block < W.heap.size) → DataW.TrodAll enc P W' 0 (fun b => decide (b < W.heap.size)) true ts vs ds ps
  | [], [], [], _, _, h, _ => h
  | t :: ts, v :: vs, d :: ds, ps, hr, ⟨p, q, h1, h2, h3⟩, hlt => by
    simp only [List.all_cons, Bool.and_eq_true, decide_eq_true_eq] at hr
    subst h3
    exact ⟨p, q, Below.trod hl hr.1.1 hr.1.2 h1 hb fun x hx => hlt x (by simp [hx]), trodAll_below hl hb hr.2 h2 fun x hx => hlt x (by simp [hx]), rfl⟩
  | [], _ :: _, _, _, _, h, _ => h.elim
  | [], [], _ :: _, _, _, h, _ => h.elim
  | _ :: _, [], _, _, _, h, _ => h.elim
  | _ :: _, _ :: _, [], _, _, h, _ => h.elim

/-- What a row of a law asks of the end: it returned true; nothing that was there has been turned. -/
theorem law_post {H : Type} {enc : TypeId × Value → H} {P : Program} {f : Func} {s : ChangeSpec} {W W' : World} {args : Array Value} {ds gs : List (DataW H)} {before : List MemPlace} {tb : TypeId} (hl : laidOutB P = true)
    (hr : (f.params.toList.all fun t => P.readableRec t && decide (t < P.types.size)) = true) (hv : s.vars = []) (hres : f.resultTypes = #[tb]) (htb : P.underlying tb = some .bool)
    (hs : ∀ ds : List (DataW H), ds.length = f.params.size → s.fn H ds = { results := [.lit (.bool true)], args := ds })
    (hW : DataW.Whole enc P f.params.toList s.vars false W args.toList ds gs before) (hb : Below W.heap.size W W') : s.post enc P f false true false false W args (.bool true) W' := by
  have hW' := hW
  obtain ⟨p, q, hA, hV, rfl, hfz, hnd⟩ := hW
  rw [hv] at hV
  obtain ⟨rfl, rfl⟩ := trodVars_none hV
  have hlen : ds.length = f.params.size := by
    have : ∀ {ts : List TypeId} {vs : List Value} {ds : List (DataW H)} {ps : List MemPlace}, DataW.TrodAll enc P W 0 (fun _ => true) true ts vs ds ps → ds.length = ts.length := by
      intro ts
      induction ts with
      | nil => intro vs ds ps h; cases vs <;> cases ds <;> first | rfl | exact h.elim
      | cons t ts ih =>
        intro vs ds ps h
        cases vs with
        | nil => exact h.elim
        | cons v vs =>
          cases ds with
          | nil => exact h.elim
          | cons d ds => obtain ⟨p, q, _, h2, _⟩ := h; simp [ih h2]
    simpa using this hA
  have hfn := hs (ds ++ []) (by simpa using hlen)
  refine ⟨ds, [], p ++ [], [], p, [], hW', ?_, ?_, ?_, kept_of_below hb _, fun h => by cases h⟩
  · rw [hfn, hres]
    refine ⟨[], [], ⟨1, ?_⟩, rfl, rfl⟩
    simp [DataW.trod, htb, Value.cells]
  · rw [hfn, List.append_nil]
    exact trodAll_below hl hb hr hA fun x hx => hW'.lt x (by simp [hx])
  · rw [hv, hfn]; rfl

end Go.Proofs.YtinedfjknhahmaaDoor.Fw
