/- The contracts of numerals, of joined texts; of tokens as a text. -/
import Derived.Test.YtddnigahjahkbaaGreatDoorWC
import Derived.Sort.Walk0
import Derived.Test.YtddnigahjahkbaaGreatDoorProg
import Derived.Shelf.SlIter.Nil
import Derived.Shelf.SortM.Plain
import Derived.Shelf.SortM.SortNone
namespace Go.Proofs.YtddnigahjahkbaaGreatDoor
set_option linter.unusedVariables false
set_option linter.unusedSimpArgs false
set_option maxRecDepth 100000
open Go.RowKit Go.Shelf Fw
theorem itoa_room {n : Int} (h : I64 n) : (Lib.itoa n).length ≤ 21 := by have := Lib.itoa_length_le n h.1 h.2; omega
theorem c36 (Γ : Nat → PV) (hΓ : Tab Γ) (n : Int) (hn : I64 n) : Gives Tryz.prog Γ 36 [.int .i64 n, .int .i64 10] (.str (Lib.itoa n)) :=
  gives_text lays.m17 hΓ.2.2.2.2 (fun _ _ _ h => ints2 h) (by have := itoa_room hn; omega) fun w hw => Any.strconv_FormatInt_10 lays n hn.1 hn.2 w hw
theorem c70 (Γ : Nat → PV) : Gives Tryz.prog Γ 70 [.str [49], .int .i64 10, .int .i64 32] (.tup [.int .i64 1, .nili]) := by
  intro H w0 G w us hs hr
  obtain ⟨l⟩ := us
  obtain ⟨v, vs, rfl, r1, r2⟩ := hr.cons_inv
  obtain ⟨v2, vs, rfl, r3, r4⟩ := r2.cons_inv
  obtain ⟨v3, vs, rfl, r5, r6⟩ := r4.cons_inv
  have : vs = [] := by have := r6.1; simpa using this.symm
  subst this
  have e1 := r1.str_inv
  have e2 := r3.int_inv
  have e3 := r5.int_inv
  subst e1; subst e2; subst e3
  have hc := Any.strconv_ParseInt_10_at32_ok parses ⟨#[49]⟩ (by decide) 1 (by decide) w
  refine callsIn_wide.2 (hc.mono fun e w' hq => ?_)
  obtain ⟨rfl, hw⟩ := hq
  have hb : Below w.heap.size w w' := by
    rcases hw with rfl | ⟨t, rfl⟩
    · exact Below.refl _ _
    · exact Lib.bytesWorld_below _ _ _
  exact ⟨_, .tup [.int .i64 1, .nili], H, G, rfl, hs.grown hb, .tup _ _ _ rfl (fun i c v hc hv => by
    match i with
    | 0 => cases hc; cases hv; exact .int _ _ _
    | 1 => cases hc; cases hv; exact .nili _
    | k + 2 => cases hc), Evol.refl _ _, Nat.le_refl _, rfl, rfl⟩
theorem flatS (ts : List (List UInt8)) : (ts.map S1).flatten = ts.map PV.str := by
  induction ts with
  | nil => rfl
  | cons z zs ih => rw [List.map_cons, List.flatten_cons, ih]; rfl
theorem rowCap {Γ : Nat → PV} {w0 w : World} {G : Ghost} {H : List Blk} {b k sz : Nat} {cs : List PV} {v : Value} (h : Sim Γ w0 G H w) (hb : H[b]? = some (.row sz cs)) (hlen : cs.length = k * sz) (hv : Rep G H.length (.row b 0 k sz) v) : ∀ ad k' cap, v = .slice ad k' cap → k ≤ cap := fun ad k' cap e => by
  obtain ⟨ad2, cap2, rfl, _, _, h3, h4⟩ := hv.row_inv
  cases e
  obtain ⟨_, k2, _⟩ := h.blk b _ hb
  exact (h4 (by omega)).1
theorem c47 (Γ : Nat → PV) (H : List Blk) (b : Nat) (ts : List (List UInt8)) (sep : List UInt8) (hb : H[b]? = some (.row 1 ((ts.map S1).flatten))) (hne : ts ≠ []) (hN : ts.length ≤ 1000000000000) (hlen : (Lib.join ts sep).length ≤ 140737488355328) :
    ACalls Tryz.prog Γ 47 [.row b 0 ts.length 1, .str sep] H (fun p H' => p = .str (Lib.join ts sep) ∧ H' = H) := by
  intro w0 G w us hs hr
  obtain ⟨l⟩ := us
  obtain ⟨v, vs, rfl, r1, r2⟩ := hr.cons_inv
  obtain ⟨v2, vs, rfl, r3, r4⟩ := r2.cons_inv
  have : vs = [] := by have := r4.1; simpa using this.symm
  subst this
  have hv2 := r3.str_inv
  subst hv2
  have hl1 : ((ts.map S1).flatten).length = ts.length * 1 := flat_len S1_len ts
  have hcap := rowCap hs hb hl1 r1
  obtain ⟨ad, cap, rfl, hcase⟩ := hs.rowCells hb hl1 r1
  have hcap2 : ts.length ≤ cap := hcap _ _ _ rfl
  rcases hcase with h0 | ⟨rfl, hsub, hpos, hblk, hcells⟩
  · exact absurd (List.eq_nil_of_length_eq_zero h0) hne
  have hxs : ((ts.map fun s => (⟨s.toArray⟩ : ByteArray)).map (·.data.toList)) = ts := by
    rw [List.map_map]
    conv => rhs; rw [← List.map_id ts]
    exact List.map_congr_left fun s _ => by simp
  have hc := Any.strings_Join joins extra (G.info b).blk 0 cap (ts.map fun s => (⟨s.toArray⟩ : ByteArray)) ⟨sep.toArray⟩ w (fun j x hx => by
    rw [List.getElem?_map] at hx
    obtain ⟨s, hs', rfl⟩ := Option.map_eq_some_iff.1 hx
    obtain ⟨u, g1, _, g3, _⟩ := hcells j (.str s) (by rw [flatS, List.getElem?_map, hs']; rfl)
    rw [Nat.zero_add, g1, g3.str_inv]) hblk (by rw [List.length_map]; omega) (by rw [List.length_map]; exact hcap2) (by rw [hxs]; simpa using hlen)
  rw [hxs, List.length_map] at hc
  refine callsIn_wide.2 (hc.mono fun e w' hq => ?_)
  obtain ⟨rfl, hbel⟩ := hq
  exact ⟨_, .str (Lib.join ts sep), H, G, rfl, hs.grown hbel, .str _ _ (by omega), Evol.refl _ _, Nat.le_refl _, rfl, rfl⟩
theorem c29n (Γ : Nat → PV) (H : List Blk) (b : Nat) (sep : List UInt8) (hb : H[b]? = some (.row 1 [])) :
    ACalls Tryz.prog Γ 47 [.row b 0 0 1, .str sep] H (fun p H' => p = .str [] ∧ H' = H) := by
  intro w0 G w us hs hr
  obtain ⟨l⟩ := us
  obtain ⟨v, vs, rfl, r1, r2⟩ := hr.cons_inv
  obtain ⟨v2, vs, rfl, r3, r4⟩ := r2.cons_inv
  have : vs = [] := by have := r4.1; simpa using this.symm
  subst this
  have hv2 := r3.str_inv
  subst hv2
  obtain ⟨ad, cap, rfl, hcase⟩ := hs.rowCells hb rfl r1
  have hc := Any.strings_Join_none joins extra ad cap ⟨sep.toArray⟩ w
  refine callsIn_wide.2 (hc.mono fun e w' hq => ?_)
  obtain ⟨rfl, rfl⟩ := hq
  exact ⟨_, .str [], H, G, rfl, hs, .str _ _ (by decide), Evol.refl _ _, Nat.le_refl _, rfl, rfl⟩
theorem join_len {sep : List UInt8} {B : Nat} : ∀ ts : List (List UInt8), (∀ t ∈ ts, t.length ≤ B) → (Lib.join ts sep).length ≤ ts.length * (B + sep.length)
  | [], _ => by simp [Lib.join, List.intercalate]
  | [t], h => by rw [Lib.join_one]; have := h t (by simp); simp; omega
  | t :: u :: ts, h => by
    have ih := join_len (sep := sep) (u :: ts) (fun x hx => h x (by simp [hx]))
    have h0 := h t (by simp)
    have e : (Lib.join (t :: u :: ts) sep).length = t.length + sep.length + (Lib.join (u :: ts) sep).length := by
      simp [Lib.join, List.intercalate, List.intersperse]; omega
    rw [e, List.length_cons, Nat.add_mul]
    omega
def printT (l : List Tk) : List UInt8 := Lib.join (l.map Tk.text) [32]
set_option maxHeartbeats 1000000 in
theorem c20 (Γ : Nat → PV) (l : List Tk) (f : Bool) (hl : l.length ≤ 1000000) (hB : ∀ t ∈ l, t.text.length ≤ 1000000) : Gives Tryz.prog Γ 20 [.vec (l.map Tk.enc) f] (.str (printT l)) := by
  refine fn_of_awp Tryz.func20 rfl (by simp [Tryz.f20]) rfl fun H => ?_
  refine awp_bd fun hbd => ?_
  refine awp_seq ?_
  refine awp_run rfl (by simp only [fwA, seval] <;> rfl) ?_
  refine awp_seq ?_
  refine awp_run rfl (by simp only [fwA, seval] <;> rfl) ?_
  refine awp_seq ?_
  refine awp_seq ?_
  refine awp_run rfl (by simp only [fwA, seval, gfw, bx, dx] <;> rfl) ?_
  refine awp_told (told_adopt 3 1 (by decide) rfl) ?_
  refine awp_block ?_
  refine awp_forG [0, 3, 6, 7, 8] (fun i : Nat => [.vec (l.map Tk.enc) f, .row H.length 0 i 1, .vec (l.map Tk.enc) f, .int .i64 (l.length : Int), .int .i64 (i : Int)])
    (fun i => H ++ [.row 1 ((((l.take i).map Tk.text).map S1).flatten)]) (fun i => l.length - i) (fun i => i ≤ l.length) 0 rfl rfl (Nat.zero_le _)
    (fun i _ => ⟨bd_app (fun B hB => hbd B hB) (by simp only [List.all_cons, List.all_nil, Blk.bd, flat_bd (fun x => S1_fw.2.2 _ x), Bool.and_true]), by simp [PV.bdL, PV.bd]⟩) (fun i _ b hb => by cases hb) fun i hi => ?_
  have hti : ((l.take i).map Tk.text).length = i := by simp; omega
  refine awp_seq ?_
  refine awp_run rfl (by simp only [fwA, seval, gfw, bx, dx] <;> rfl) ?_
  refine awp_seq ?_
  refine awp_cond (by simp only [fwA, seval] <;> rfl) ?_
  by_cases hc : (i : Int) < l.length
  rotate_left
  · simp only [hc, decide_false, Bool.false_eq_true, ↓reduceIte]
    refine awp_exit ?_
    have e : i = l.length := by omega
    subst e
    rw [List.take_length]
    refine awp_seq ?_
    have hj := join_len (sep := [32]) (B := 1000000) (l.map Tk.text) (fun t ht => by
      obtain ⟨p, hp, rfl⟩ := List.mem_map.1 ht
      exact hB p hp)
    rw [List.length_map] at hj
    have hj2 : l.length * (1000000 + 1) ≤ 1000000 * (1000000 + 1) := Nat.mul_le_mul_right _ hl
    have hc29 : ACalls Tryz.prog Γ 47 [.row H.length 0 l.length 1, .str [32]] (H ++ [.row 1 (((l.map Tk.text).map S1).flatten)]) (fun p H' => p = .str (printT l) ∧ H' = H ++ [.row 1 (((l.map Tk.text).map S1).flatten)]) := by
      by_cases h0 : l = []
      · subst h0
        exact c29n Γ _ H.length [32] (get_at0 H _)
      have := c47 Γ (H ++ [.row 1 (((l.map Tk.text).map S1).flatten)]) H.length (l.map Tk.text) [32] (get_at0 H _) (by simpa using h0) (by rw [List.length_map]; omega) (Nat.le_trans hj (Nat.le_trans hj2 (by decide)))
      rwa [List.length_map] at this
    refine awp_region rfl ?_
    refine aops_run 1 (by simp only [fwA, seval, gfw, bx, dx] <;> rfl) ?_
    refine aops_call rfl rfl rfl en47 (hc29.mono fun p H4 hp => ?_)
    obtain ⟨rfl, rfl⟩ := hp
    refine aops_run 1 (by simp only [fwA, seval, gfw, bx, dx] <;> rfl) ?_
    refine awp_ret ?_
    exact gives_end (.inl rfl) _ rfl
  simp only [hc, decide_true, ↓reduceIte]
  refine awp_skip ?_
  have hil : i < l.length := by omega
  obtain ⟨z, hz⟩ : ∃ z, l[i]? = some z := ⟨_, List.getElem?_eq_getElem hil⟩
  refine awp_seq ?_
  refine awp_block ?_
  refine awp_seq ?_
  refine awp_run rfl (by simp only [fwA, seval, gfw, bx, dx, hz] <;> rfl) ?_
  refine awp_region rfl ?_
  refine aops_run 4 (by simp only [fwA, seval, gfw, bx, dx, hz] <;> rfl) ?_
  refine aops_push (enc := S1) (l := (l.take i).map Tk.text) (z := z.text) S1_len rfl rfl un43 ti9 rfl un43 rfl (get_at0 H _) hti.symm rfl (by show (i + 1) * 16 ≤ _; omega) (by omega) rfl ?_
  refine aops_run 1 (by simp only [fwA, seval, gfw, bx, dx] <;> rfl) ?_
  refine awp_run rfl (by simp only [fwA, seval, gfw, bx, dx] <;> rfl) ?_
  have hmp : ((l.take (i + 1)).map Tk.text) = ((l.take i).map Tk.text) ++ [z.text] := by rw [take_snoc hz, List.map_append]; rfl
  refine ⟨i + 1, [.box z.enc], by omega, by omega, by rw [wrapS i (by omega)]; rfl, ?_, rfl, by simp⟩
  rw [hmp]
  simp [S1]
end Go.Proofs.YtddnigahjahkbaaGreatDoor
namespace Go.Proofs.YtddnigahjahkbaaGreatDoor
set_option linter.unusedVariables false
set_option linter.unusedSimpArgs false
set_option maxRecDepth 100000
open Go.RowKit Fw
def hasP (s m : List UInt8) : Bool := decide (m.length ≤ s.length) && decide (s.take m.length = m)
theorem c97 (Γ : Nat → PV) (s m : List UInt8) : Gives Tryz.prog Γ 97 [.str s, .str m] (.bool (hasP s m)) := by
  refine fn_of_awp Tryz.func97 rfl (by simp [Tryz.f97]) rfl fun H => ?_
  refine awp_slen 1 rfl fun hm => ?_
  refine awp_seq ?_
  refine awp_run rfl (by simp only [fwA, seval] <;> rfl) ?_
  refine awp_seq ?_
  by_cases h : m.length ≤ s.length
  · have h2 : (m.length : Int) ≤ s.length := by omega
    have h3 : decide (m.length ≤ s.length) = true := decide_eq_true h
    refine awp_region rfl ?_
    refine aops_run 9 (by simp only [fwA, seval, gfw, bx, dx, h2, List.drop_zero, Nat.sub_zero] <;> rfl) ?_
    refine aops_if rfl rfl rfl (os_sliceStr (l := 0) (h := m.length) rfl un9 rfl rfl ⟨_, rfl⟩ (Nat.zero_le _) h ?_)
    refine aops_run 4 (by simp only [fwA, seval, gfw, bx, dx, h2, List.drop_zero, Nat.sub_zero] <;> rfl) ?_
    refine aops_end ?_
    refine awp_ret ?_
    exact gives_end0 (.inl rfl) (by unfold hasP; rw [h3]; rfl)
  · have h2 : ¬ (m.length : Int) ≤ s.length := by omega
    have h3 : decide (m.length ≤ s.length) = false := decide_eq_false h
    refine awp_region rfl ?_
    refine aops_run 13 (by simp only [fwA, seval, gfw, bx, dx, h2] <;> rfl) ?_
    refine aops_run 1 (by simp only [fwA, seval, gfw, bx, dx, h2] <;> rfl) ?_
    refine aops_end ?_
    refine awp_ret ?_
    exact gives_end0 (.inl rfl) (by unfold hasP; rw [h3]; rfl)
theorem c73 (Γ : Nat → PV) (s m : List UInt8) : Gives Tryz.prog Γ 73 [.str s, .str m] (.bool (hasP s m)) := by
  have h60 := c97 Γ s m
  refine fn_of_awp Tryz.func73 rfl (by simp [Tryz.f73]) rfl fun H => ?_
  refine awp_seq ?_
  refine awp_run rfl (by simp only [fwA, seval] <;> rfl) ?_
  refine awp_seq ?_
  refine awp_region rfl ?_
  refine aops_run 2 (by simp only [fwA, seval, gfw, bx, dx] <;> rfl) ?_
  refine aops_fn rfl rfl rfl en97 h60 ?_
  refine aops_run 1 (by simp only [fwA, seval, gfw, bx, dx] <;> rfl) ?_
  refine aops_end ?_
  refine awp_ret ?_
  exact gives_end0 (.inl rfl) rfl
theorem c72 (Γ : Nat → PV) (H : List Blk) (b : Nat) (s m : List UInt8) (hb : H[b]? = some (.box [.str s])) : ACalls Tryz.prog Γ 72 [.str m, .ptr b 0] H (fun q H' => q = .bool (hasP s m) ∧ H' = H) := by
  have h49 := c73 Γ s m
  refine acalls_of_awp Tryz.func72 rfl (by simp [Tryz.f72]) fun hbd => ?_
  refine awp_seq ?_
  refine awp_run rfl (by simp only [fwA, seval] <;> rfl) ?_
  refine awp_seq ?_
  refine awp_region rfl ?_
  refine aops_run 2 (by simp only [fwA, seval, gfw, bx, dx, hb] <;> rfl) ?_
  refine aops_fn rfl rfl rfl en73 h49 ?_
  refine aops_run 1 (by simp only [fwA, seval, gfw, bx, dx, hb] <;> rfl) ?_
  refine aops_end ?_
  refine awp_ret ?_
  exact calls_end0 (p := .bool (hasP s m)) (.inl rfl) hbd rfl rfl ⟨rfl, rfl⟩
def fidx {X : Type} (p : X → Bool) (l : List X) : Int := match l.findIdx? p with | some i => (i : Int) | none => -1
theorem fidx_none {X : Type} {p : X → Bool} {l : List X} (h : ∀ j x, j < l.length → l[j]? = some x → p x = false) : fidx p l = -1 := by
  unfold fidx
  rw [List.findIdx?_eq_none_iff.2 fun x hx => by
    obtain ⟨j, hj⟩ := List.getElem?_of_mem hx
    exact h j x (List.getElem?_eq_some_iff.1 hj).1 hj]
theorem fidx_at {X : Type} {p : X → Bool} {l : List X} {i : Nat} {x : X} (hx : l[i]? = some x) (hp : p x = true) (h : ∀ j x, j < i → l[j]? = some x → p x = false) : fidx p l = i := by
  unfold fidx
  obtain ⟨hi, e⟩ := List.getElem?_eq_some_iff.1 hx
  rw [List.findIdx?_eq_some_iff_getElem.2 ⟨hi, by rw [e]; exact hp, fun j hj => by rw [h j l[j] hj (List.getElem?_eq_getElem (by omega))]; simp⟩]
theorem c71 (Γ : Nat → PV) (H : List Blk) (f : Nat) (he : Enters Tryz.prog f) (cs : List PV) (l : List (List UInt8)) (fl : Bool) (p : List UInt8 → Bool)
    (h : ∀ x ∈ l, ACalls Tryz.prog Γ f ([] ++ [.str x] ++ cs) H (fun q H' => q = .bool (p x) ∧ H' = H)) :
    ACalls Tryz.prog Γ 71 [.vec (l.map S1) fl, .func (.func f) [] cs] H (fun q H' => q = .int .i64 (fidx p l) ∧ H' = H) := by
  refine acalls_of_awp Tryz.func71 rfl (by simp [Tryz.f71]) fun hbd => ?_
  refine awp_vlen 0 rfl fun hl => ?_
  rw [List.length_map] at hl
  refine awp_seq ?_
  refine awp_run rfl (by simp only [fwA, seval] <;> rfl) ?_
  refine awp_seq ?_
  refine awp_seq ?_
  refine awp_run rfl (by simp only [fwA, seval, gfw, bx, dx] <;> rfl) ?_
  refine awp_block ?_
  refine awp_for [0, 1, 7, 8] (fun i : Nat => [.vec (l.map S1) fl, .func (.func f) [] cs, .int .i64 (l.length : Int), .int .i64 (i : Int)]) (fun _ => H) (fun i => l.length - i) (fun i => i ≤ l.length ∧ ∀ j x, j < i → l[j]? = some x → p x = false) 0 rfl rfl ⟨Nat.zero_le _, fun j x h => by omega⟩ fun i ⟨hi, hn⟩ => ?_
  refine awp_seq ?_
  refine awp_run rfl (by simp only [fwA, seval, gfw, bx, dx] <;> rfl) ?_
  refine awp_seq ?_
  refine awp_cond (by simp only [fwA, seval] <;> rfl) ?_
  by_cases hc : (i : Int) < l.length
  rotate_left
  · simp only [hc, decide_false, Bool.false_eq_true, ↓reduceIte]
    refine awp_exit ?_
    have e : i = l.length := by omega
    subst e
    refine awp_seq ?_
    refine awp_run rfl (by simp only [fwA, seval, gfw, bx, dx] <;> rfl) ?_
    refine awp_ret ?_
    exact calls_end0 (fn := Tryz.f71) (R := fun q H' => q = .int .i64 (fidx p l) ∧ H' = H) (p := .int .i64 (-1)) (.inl rfl) hbd rfl rfl ⟨by rw [fidx_none hn], rfl⟩
  simp only [hc, decide_true, ↓reduceIte]
  refine awp_skip ?_
  have hil : i < l.length := by omega
  obtain ⟨z, hz⟩ : ∃ z, l[i]? = some z := ⟨_, List.getElem?_eq_getElem hil⟩
  have hp := h z (List.mem_of_getElem? hz)
  refine awp_seq ?_
  refine awp_block ?_
  refine awp_seq ?_
  refine awp_run rfl (by simp only [fwA, seval, gfw, bx, dx] <;> rfl) ?_
  refine awp_seq ?_
  refine awp_region rfl ?_
  refine aops_run 5 (by simp only [fwA, seval, gfw, bx, dx, hz] <;> rfl) ?_
  refine aops_call rfl rfl rfl he (hp.mono fun q H' hq => ?_)
  obtain ⟨rfl, rfl⟩ := hq
  refine aops_end ?_
  refine awp_cond (by simp only [fwA, seval] <;> rfl) ?_
  cases hpz : p z
  · simp only [Bool.false_eq_true, ↓reduceIte]
    refine awp_skip ?_
    refine awp_run rfl (by simp only [fwA, seval, gfw, bx, dx] <;> rfl) ?_
    refine ⟨i + 1, by omega, ⟨by omega, fun j x hj hx => ?_⟩, ?_, rfl, rfl⟩
    · obtain hj | rfl : j < i ∨ j = i := by omega
      · exact hn j x hj hx
      · rw [hz] at hx; cases hx; exact hpz
    · simp only [fwA, seval, List.map_cons, List.map_nil, wrapS i (by omega)]
  · simp only [↓reduceIte]
    refine awp_seq ?_
    refine awp_run rfl (by simp only [fwA, seval, gfw, bx, dx] <;> rfl) ?_
    refine awp_ret ?_
    show RetQ Tryz.prog Γ Tryz.f71 H'.length (fun q H2 => q = .int .i64 (fidx p l) ∧ H2 = H') .ret _ _ []
    exact calls_end0 (p := .int .i64 (i : Int)) (.inl rfl) hbd rfl rfl ⟨by rw [fidx_at hz hpz hn], rfl⟩
theorem c58 (Γ : Nat → PV) (hΓ : Tab Γ) (s m : List UInt8) (k : Nat) (hk : fidx (hasP s) mks = k) (hm : mks[k]? = some m) : Gives Tryz.prog Γ 58 [.str s] (.tup [.agg (Tk.mk 4 m 0).enc, .bool true]) := by
  have hkl : k < 13 := (List.getElem?_eq_some_iff.1 hm).1
  refine fn_of_awp Tryz.func58 rfl (by simp [Tryz.f58]) rfl fun H => ?_
  refine awp_seq ?_
  refine awp_run rfl (by simp only [fwA, seval, gfw, bx, dx] <;> rfl) ?_
  refine awp_seq ?_
  have h47 := c71 Γ (H ++ [.box [.str s], .box [.int .i64 0, .str [], .int .i64 0]]) 72 en72 [.ptr H.length 0] mks true (hasP s) (fun x _ => c72 Γ _ H.length s x (by simp))
  rw [hk] at h47
  refine awp_region rfl ?_
  refine aops_one rfl (os_sliceArr (cs := mks.map .str) rfl ar112 (show ev Γ _ (.global 3) = _ from hΓ.2.2.2.1) rfl (by decide) (by decide) ?_)
  refine aops_run 1 (by simp only [fwA, seval, gfw, bx, dx] <;> rfl) ?_
  refine aops_call rfl rfl rfl en71 (h47.mono fun q H' hq => ?_)
  obtain ⟨rfl, rfl⟩ := hq
  refine aops_run 1 (by simp only [fwA, seval, gfw, bx, dx] <;> rfl) ?_
  refine awp_seq ?_
  refine awp_seq ?_
  refine awp_run rfl (by simp only [fwA, seval, gfw, bx, dx] <;> rfl) ?_
  refine awp_cond (b := false) (by simp [alook, aput, ev]) (awp_skip ?_)
  refine awp_seq ?_
  have hg : Γ 3 = .cptr (mks.map .str) := hΓ.2.2.2.1
  have hi : (0 : Int) ≤ k ∧ (k : Int) < 13 := ⟨by omega, by omega⟩
  have gm : ((mks.map PV.str).drop (k * 1))[0]? = some (.str m) := by rw [List.getElem?_drop, List.getElem?_map]; simp [hm]
  refine awp_run rfl (by simp only [fwA, seval, gfw, bx, dx, hg, hi, gm] <;> rfl) ?_
  refine awp_ret ?_
  exact gives_end (.inl rfl) _ (by simp only [fwA, seval, gfw, bx, ares, aresL, ares1, Tryz.f58, Tk.enc])
theorem c56 (Γ : Nat → PV) (hΓ : Tab Γ) (s : List UInt8) : Gives Tryz.prog Γ 56 [.str s] (.tup [.agg (Tk.mk (if s ∈ kws then 3 else 1) s 0).enc, .bool (decide (s ∈ kws) || decide (nameP s))]) := by
  have h38 := c49 Γ hΓ s
  have h37 := c48 Γ s
  refine fn_of_awp Tryz.func56 rfl (by simp [Tryz.f56]) rfl fun H => ?_
  refine awp_seq ?_
  refine awp_run rfl (by simp only [fwA, seval, gfw, bx, dx] <;> rfl) ?_
  refine awp_seq ?_
  refine awp_seq ?_
  by_cases h : s ∈ kws
  · rw [decide_eq_true h] at h38
    refine awp_region rfl ?_
    refine aops_run 1 (by simp only [fwA, seval, gfw, bx, dx] <;> rfl) ?_
    refine aops_fn rfl rfl rfl en49 h38 ?_
    refine aops_end ?_
    refine awp_cond (b := true) (by simp [alook, aput, ev]) ?_
    refine awp_seq ?_
    refine awp_run rfl (by simp only [fwA, seval, gfw, bx, dx] <;> rfl) ?_
    refine awp_ret ?_
    exact gives_end (.inl rfl) _ (by simp only [fwA, seval, gfw, bx, ares, aresL, ares1, Tryz.f56, Tk.enc, h, if_pos])
  · rw [decide_eq_false h] at h38
    refine awp_region rfl ?_
    refine aops_run 1 (by simp only [fwA, seval, gfw, bx, dx] <;> rfl) ?_
    refine aops_fn rfl rfl rfl en49 h38 ?_
    refine aops_end ?_
    refine awp_cond (b := false) (by simp [alook, aput, ev]) (awp_skip ?_)
    refine awp_seq ?_
    refine awp_region rfl ?_
    refine aops_run 3 (by simp only [fwA, seval, gfw, bx, dx] <;> rfl) ?_
    refine aops_fn rfl rfl rfl en48 h37 ?_
    refine aops_run 2 (by simp only [fwA, seval, gfw, bx, dx] <;> rfl) ?_
    refine aops_end ?_
    refine awp_ret ?_
    exact gives_end (.inl rfl) _ (by simp only [fwA, seval, gfw, bx, ares, aresL, ares1, Tryz.f56, Tk.enc, h, if_neg, not_false_eq_true])
theorem c57 (Γ : Nat → PV) (hΓ : Tab Γ) : Gives Tryz.prog Γ 57 [.str [49]] (.tup [.agg (Tk.mk 2 [49] 1).enc, .bool true]) := by
  have h46 := c70 Γ
  have h31 := c36 Γ hΓ 1 ⟨by decide, by decide⟩
  rw [show Lib.itoa 1 = [49] from by rw [show (1 : Int) = ((1 : Nat) : Int) from rfl, Lib.itoa_nonneg, Lib.decDigits_one (by decide)]; rfl] at h31
  refine fn_of_awp Tryz.func57 rfl (by simp [Tryz.f57]) rfl fun H => ?_
  refine awp_seq ?_
  refine awp_run rfl (by simp only [fwA, seval, gfw, bx, dx] <;> rfl) ?_
  refine awp_seq ?_
  refine awp_region rfl ?_
  refine aops_run 1 (by simp only [fwA, seval, gfw, bx, dx] <;> rfl) ?_
  refine aops_fn rfl rfl rfl en70 h46 ?_
  refine aops_run 5 (by simp only [fwA, seval, gfw, bx, dx] <;> rfl) ?_
  refine aops_end ?_
  refine awp_seq ?_
  refine awp_region rfl ?_
  refine aops_run 7 (by simp only [fwA, seval, gfw, bx, dx] <;> rfl) ?_
  refine aops_fnIf rfl rfl rfl rfl rfl en36 h31 ?_
  refine aops_run 5 (by simp only [fwA, seval, gfw, bx, dx] <;> rfl) ?_
  refine aops_end ?_
  refine awp_ret ?_
  exact gives_end (.inl rfl) _ (by simp only [fwA, seval, gfw, bx, ares, aresL, ares1, Tryz.f57, Tk.enc])
end Go.Proofs.YtddnigahjahkbaaGreatDoor
namespace Go.Proofs.YtddnigahjahkbaaGreatDoor
set_option linter.unusedVariables false
set_option linter.unusedSimpArgs false
set_option maxRecDepth 100000
open Go.RowKit Fw
def TkOk (t : Tk) : Prop := (t.kind = 1 ∧ nameP t.text ∧ t.text ∉ kws ∧ t.n = 0) ∨ (t.kind = 3 ∧ t.text ∈ kws ∧ t.n = 0) ∨ (t.kind = 2 ∧ t.text = [49] ∧ t.n = 1) ∨ (t.kind = 4 ∧ t.n = 0 ∧ ∃ k : Nat, fidx (hasP t.text) mks = k ∧ mks[k]? = some t.text)
set_option maxHeartbeats 2000000 in
theorem c33 (Γ : Nat → PV) (hΓ : Tab Γ) (t : Tk) (h : TkOk t) : Gives Tryz.prog Γ 33 [.agg t.enc] (.bool true) := by
  obtain ⟨k, s, n⟩ := t
  unfold Tk.enc
  simp only
  rcases h with ⟨h1, h2, h3, h4⟩ | ⟨h1, h2, h4⟩ | ⟨h1, h2, h4⟩ | ⟨h1, h4, m, h2, h3⟩
  · simp only at h1 h2 h4 h3
    subst h1; subst h4
    have h34 := c56 Γ hΓ s
    rw [if_neg h3, decide_eq_false h3, decide_eq_true h2] at h34
    refine fn_of_awp Tryz.func33 rfl (by simp [Tryz.f33]) rfl fun H => ?_
    refine awp_seq ?_
    refine awp_run rfl (by simp only [fwA, seval, gfw, bx, dx] <;> rfl) ?_
    refine awp_seq ?_
    refine awp_run rfl (by simp only [fwA, seval, gfw, bx, dx] <;> rfl) ?_
    refine awp_seq ?_
    refine awp_run rfl (by simp only [fwA, seval, gfw, bx, dx] <;> rfl) ?_
    refine awp_seq ?_
    refine awp_seq ?_
    refine awp_run rfl (by simp only [fwA, seval, gfw, bx, dx] <;> rfl) ?_
    refine awp_block ?_
    refine awp_seq ?_
    refine awp_block ?_
    refine awp_seq ?_
    refine awp_block ?_
    refine awp_seq ?_
    refine awp_block ?_
    refine awp_block ?_
    refine awp_seq ?_
    refine awp_seq ?_
    refine awp_seq ?_
    refine awp_run rfl (by simp only [fwA, seval, gfw, bx, dx] <;> rfl) ?_
    refine awp_cond (b := true) (by simp [alook, aput, ev]) ?_
    refine awp_exit ?_
    refine awp_seq ?_
    refine awp_region rfl ?_
    refine aops_run 2 (by simp only [fwA, seval, gfw, bx, dx, Tk.enc] <;> rfl) ?_
    refine aops_fn rfl rfl rfl en56 h34 ?_
    refine aops_run 5 (by simp only [fwA, seval, gfw, bx, dx, Tk.enc] <;> rfl) ?_
    refine aops_end ?_
    refine awp_exit ?_
    refine awp_seq ?_
    refine awp_run rfl (by simp only [fwA, seval, gfw, bx, dx] <;> rfl) ?_
    refine awp_ret ?_
    exact gives_end (.inl rfl) _ rfl
  · simp only at h1 h2 h4
    subst h1; subst h4
    have h34 := c56 Γ hΓ s
    rw [if_pos h2, decide_eq_true h2] at h34
    refine fn_of_awp Tryz.func33 rfl (by simp [Tryz.f33]) rfl fun H => ?_
    refine awp_seq ?_
    refine awp_run rfl (by simp only [fwA, seval, gfw, bx, dx] <;> rfl) ?_
    refine awp_seq ?_
    refine awp_run rfl (by simp only [fwA, seval, gfw, bx, dx] <;> rfl) ?_
    refine awp_seq ?_
    refine awp_run rfl (by simp only [fwA, seval, gfw, bx, dx] <;> rfl) ?_
    refine awp_seq ?_
    refine awp_seq ?_
    refine awp_run rfl (by simp only [fwA, seval, gfw, bx, dx] <;> rfl) ?_
    refine awp_block ?_
    refine awp_seq ?_
    refine awp_block ?_
    refine awp_seq ?_
    refine awp_block ?_
    refine awp_seq ?_
    refine awp_block ?_
    refine awp_block ?_
    refine awp_seq ?_
    refine awp_seq ?_
    refine awp_seq ?_
    refine awp_run rfl (by simp only [fwA, seval, gfw, bx, dx] <;> rfl) ?_
    refine awp_cond (b := false) (by simp [alook, aput, ev]) (awp_skip ?_)
    refine awp_seq ?_
    refine awp_seq ?_
    refine awp_run rfl (by simp only [fwA, seval, gfw, bx, dx] <;> rfl) ?_
    refine awp_cond (b := true) (by simp [alook, aput, ev]) ?_
    refine awp_exit ?_
    refine awp_seq ?_
    refine awp_region rfl ?_
    refine aops_run 2 (by simp only [fwA, seval, gfw, bx, dx, Tk.enc] <;> rfl) ?_
    refine aops_fn rfl rfl rfl en56 h34 ?_
    refine aops_run 5 (by simp only [fwA, seval, gfw, bx, dx, Tk.enc] <;> rfl) ?_
    refine aops_end ?_
    refine awp_exit ?_
    refine awp_seq ?_
    refine awp_run rfl (by simp only [fwA, seval, gfw, bx, dx] <;> rfl) ?_
    refine awp_ret ?_
    exact gives_end (.inl rfl) _ rfl
  · simp only at h1 h2 h4
    subst h1; subst h4
    subst h2
    have h35 := c57 Γ hΓ
    refine fn_of_awp Tryz.func33 rfl (by simp [Tryz.f33]) rfl fun H => ?_
    refine awp_seq ?_
    refine awp_run rfl (by simp only [fwA, seval, gfw, bx, dx] <;> rfl) ?_
    refine awp_seq ?_
    refine awp_run rfl (by simp only [fwA, seval, gfw, bx, dx] <;> rfl) ?_
    refine awp_seq ?_
    refine awp_run rfl (by simp only [fwA, seval, gfw, bx, dx] <;> rfl) ?_
    refine awp_seq ?_
    refine awp_seq ?_
    refine awp_run rfl (by simp only [fwA, seval, gfw, bx, dx] <;> rfl) ?_
    refine awp_block ?_
    refine awp_seq ?_
    refine awp_block ?_
    refine awp_seq ?_
    refine awp_block ?_
    refine awp_seq ?_
    refine awp_block ?_
    refine awp_block ?_
    refine awp_seq ?_
    refine awp_seq ?_
    refine awp_seq ?_
    refine awp_run rfl (by simp only [fwA, seval, gfw, bx, dx] <;> rfl) ?_
    refine awp_cond (b := false) (by simp [alook, aput, ev]) (awp_skip ?_)
    refine awp_seq ?_
    refine awp_seq ?_
    refine awp_run rfl (by simp only [fwA, seval, gfw, bx, dx] <;> rfl) ?_
    refine awp_cond (b := false) (by simp [alook, aput, ev]) (awp_skip ?_)
    refine awp_seq ?_
    refine awp_seq ?_
    refine awp_run rfl (by simp only [fwA, seval, gfw, bx, dx] <;> rfl) ?_
    refine awp_cond (b := true) (by simp [alook, aput, ev]) ?_
    refine awp_exit ?_
    refine awp_seq ?_
    refine awp_seq ?_
    refine awp_region rfl ?_
    refine aops_run 2 (by simp only [fwA, seval, gfw, bx, dx, Tk.enc] <;> rfl) ?_
    refine aops_fn rfl rfl rfl en57 h35 ?_
    refine aops_run 5 (by simp only [fwA, seval, gfw, bx, dx, Tk.enc] <;> rfl) ?_
    refine aops_end ?_
    refine awp_run rfl (by simp only [fwA, seval, gfw, bx, dx] <;> rfl) ?_
    refine awp_exit ?_
    refine awp_seq ?_
    refine awp_run rfl (by simp only [fwA, seval, gfw, bx, dx] <;> rfl) ?_
    refine awp_ret ?_
    exact gives_end (.inl rfl) _ rfl
  · simp only at h1 h2 h4 h3
    subst h1; subst h4
    have h36 := c58 Γ hΓ s s m h2 h3
    refine fn_of_awp Tryz.func33 rfl (by simp [Tryz.f33]) rfl fun H => ?_
    refine awp_seq ?_
    refine awp_run rfl (by simp only [fwA, seval, gfw, bx, dx] <;> rfl) ?_
    refine awp_seq ?_
    refine awp_run rfl (by simp only [fwA, seval, gfw, bx, dx] <;> rfl) ?_
    refine awp_seq ?_
    refine awp_run rfl (by simp only [fwA, seval, gfw, bx, dx] <;> rfl) ?_
    refine awp_seq ?_
    refine awp_seq ?_
    refine awp_run rfl (by simp only [fwA, seval, gfw, bx, dx] <;> rfl) ?_
    refine awp_block ?_
    refine awp_seq ?_
    refine awp_block ?_
    refine awp_seq ?_
    refine awp_block ?_
    refine awp_seq ?_
    refine awp_block ?_
    refine awp_block ?_
    refine awp_seq ?_
    refine awp_seq ?_
    refine awp_seq ?_
    refine awp_run rfl (by simp only [fwA, seval, gfw, bx, dx] <;> rfl) ?_
    refine awp_cond (b := false) (by simp [alook, aput, ev]) (awp_skip ?_)
    refine awp_seq ?_
    refine awp_seq ?_
    refine awp_run rfl (by simp only [fwA, seval, gfw, bx, dx] <;> rfl) ?_
    refine awp_cond (b := false) (by simp [alook, aput, ev]) (awp_skip ?_)
    refine awp_seq ?_
    refine awp_seq ?_
    refine awp_run rfl (by simp only [fwA, seval, gfw, bx, dx] <;> rfl) ?_
    refine awp_cond (b := false) (by simp [alook, aput, ev]) (awp_skip ?_)
    refine awp_seq ?_
    refine awp_run rfl (by simp only [fwA, seval, gfw, bx, dx] <;> rfl) ?_
    refine awp_cond (b := true) (by simp [alook, aput, ev]) ?_
    refine awp_exit ?_
    refine awp_seq ?_
    refine awp_region rfl ?_
    refine aops_run 2 (by simp only [fwA, seval, gfw, bx, dx, Tk.enc] <;> rfl) ?_
    refine aops_fn rfl rfl rfl en58 h36 ?_
    refine aops_run 5 (by simp only [fwA, seval, gfw, bx, dx, Tk.enc] <;> rfl) ?_
    refine aops_end ?_
    refine awp_exit ?_
    refine awp_seq ?_
    refine awp_run rfl (by simp only [fwA, seval, gfw, bx, dx] <;> rfl) ?_
    refine awp_ret ?_
    exact gives_end (.inl rfl) _ rfl
theorem c32 (Γ : Nat → PV) (hΓ : Tab Γ) (t : Tk) (h : TkOk t) : Gives Tryz.prog Γ 32 [.agg t.enc] (.bool false) := by
  have h22 := c33 Γ hΓ t h
  refine fn_of_awp Tryz.func32 rfl (by simp [Tryz.f32]) rfl fun H => ?_
  refine awp_seq ?_
  refine awp_run rfl (by simp only [fwA, seval, gfw, bx, dx] <;> rfl) ?_
  refine awp_seq ?_
  refine awp_region rfl ?_
  refine aops_run 1 (by simp only [fwA, seval, gfw, bx, dx] <;> rfl) ?_
  refine aops_fn rfl rfl rfl en33 h22 ?_
  refine aops_run 2 (by simp only [fwA, seval, gfw, bx, dx] <;> rfl) ?_
  refine aops_end ?_
  refine awp_ret ?_
  exact gives_end (.inl rfl) _ rfl
theorem c55 (Γ : Nat → PV) (hΓ : Tab Γ) (l : List Tk) (fl : Bool) (h : ∀ t ∈ l, TkOk t) : Gives Tryz.prog Γ 55 [.vec (l.map Tk.enc) fl, .func (.func 32) [] []] (.int .i64 (-1)) := by
  refine fn_of_awp Tryz.func55 rfl (by simp [Tryz.f55]) rfl fun H => ?_
  refine awp_vlen 0 rfl fun hl => ?_
  rw [List.length_map] at hl
  refine awp_seq ?_
  refine awp_run rfl (by simp only [fwA, seval] <;> rfl) ?_
  refine awp_seq ?_
  refine awp_seq ?_
  refine awp_run rfl (by simp only [fwA, seval, gfw, bx, dx] <;> rfl) ?_
  refine awp_block ?_
  refine awp_for [0, 1, 7, 8] (fun i : Nat => [.vec (l.map Tk.enc) fl, .func (.func 32) [] [], .int .i64 (l.length : Int), .int .i64 (i : Int)]) (fun _ => H) (fun i => l.length - i) (fun i => i ≤ l.length) 0 rfl rfl (Nat.zero_le _) fun i hi => ?_
  refine awp_seq ?_
  refine awp_run rfl (by simp only [fwA, seval, gfw, bx, dx] <;> rfl) ?_
  refine awp_seq ?_
  refine awp_cond (by simp only [fwA, seval] <;> rfl) ?_
  by_cases hc : (i : Int) < l.length
  rotate_left
  · simp only [hc, decide_false, Bool.false_eq_true, ↓reduceIte]
    refine awp_exit ?_
    refine awp_seq ?_
    refine awp_run rfl (by simp only [fwA, seval, gfw, bx, dx] <;> rfl) ?_
    refine awp_ret ?_
    exact gives_end0 (.inl rfl) rfl
  simp only [hc, decide_true, ↓reduceIte]
  refine awp_skip ?_
  have hil : i < l.length := by omega
  obtain ⟨z, hz⟩ : ∃ z, l[i]? = some z := ⟨_, List.getElem?_eq_getElem hil⟩
  have hp := c32 Γ hΓ z (h z (List.mem_of_getElem? hz))
  have hwi : IntKind.i64.wrap ((i : Int) + 1) = ((i + 1 : Nat) : Int) := wrapS i (by omega)
  refine awp_seq ?_
  refine awp_block ?_
  refine awp_seq ?_
  refine awp_run rfl (by simp only [fwA, seval, gfw, bx, dx] <;> rfl) ?_
  refine awp_seq ?_
  refine awp_region rfl ?_
  refine aops_run 5 (by simp only [fwA, seval, gfw, bx, dx, hz] <;> rfl) ?_
  refine aops_fn rfl rfl rfl en32 hp ?_
  refine aops_end ?_
  refine awp_cond (b := false) (by simp [alook, aput, ev]) (awp_skip ?_)
  refine awp_run rfl (by simp only [fwA, seval, gfw, bx, dx] <;> rfl) ?_
  exact ⟨i + 1, by omega, by omega, by simp only [fwA, seval, List.map_cons, List.map_nil, hwi], rfl, rfl⟩
theorem c31 (Γ : Nat → PV) (hΓ : Tab Γ) (l : List Tk) (fl : Bool) (h : ∀ t ∈ l, TkOk t) : Gives Tryz.prog Γ 31 [.vec (l.map Tk.enc) fl, .func (.func 32) [] []] (.bool false) := by
  have h33 := c55 Γ hΓ l fl h
  refine fn_of_awp Tryz.func31 rfl (by simp [Tryz.f31]) rfl fun H => ?_
  refine awp_seq ?_
  refine awp_run rfl (by simp only [fwA, seval] <;> rfl) ?_
  refine awp_seq ?_
  refine awp_region rfl ?_
  refine aops_run 2 (by simp only [fwA, seval, gfw, bx, dx] <;> rfl) ?_
  refine aops_fn rfl rfl rfl en55 h33 ?_
  refine aops_run 2 (by simp only [fwA, seval, gfw, bx, dx] <;> rfl) ?_
  refine aops_end ?_
  refine awp_ret ?_
  exact gives_end0 (.inl rfl) rfl
theorem c15 (Γ : Nat → PV) (hΓ : Tab Γ) (l : List Tk) (fl : Bool) (h : ∀ t ∈ l, TkOk t) : Gives Tryz.prog Γ 15 [.vec (l.map Tk.enc) fl] (.bool true) := by
  have h20 := c31 Γ hΓ l fl h
  refine fn_of_awp Tryz.func15 rfl (by simp [Tryz.f15]) rfl fun H => ?_
  refine awp_seq ?_
  refine awp_run rfl (by simp only [fwA, seval] <;> rfl) ?_
  refine awp_seq ?_
  refine awp_region rfl ?_
  refine aops_run 1 (by simp only [fwA, seval, gfw, bx, dx] <;> rfl) ?_
  refine aops_fn rfl rfl rfl en31 h20 ?_
  refine aops_run 2 (by simp only [fwA, seval, gfw, bx, dx] <;> rfl) ?_
  refine aops_end ?_
  refine awp_ret ?_
  exact gives_end0 (.inl rfl) rfl
end Go.Proofs.YtddnigahjahkbaaGreatDoor
namespace Go.Proofs.YtddnigahjahkbaaGreatDoor
set_option linter.unusedVariables false
set_option linter.unusedSimpArgs false
set_option maxRecDepth 100000
open Go.RowKit Fw
section
variable {P : Program} {Γ : Nat → PV} {ops : Array Oper} {cls : List Nat} {n0 : View}
theorem chunk_enc {X : Type} {enc : X → List PV} {sz : Nat} (hE : ∀ x, (enc x).length = sz) (ys : List X) : ∀ e ∈ ys.map enc, e.length = sz := fun e he => by
  obtain ⟨x, _, rfl⟩ := List.mem_map.1 he
  exact hE x
theorem os_pushs {X : Type} {enc : X → List PV} {sz : Nat} (hE : ∀ x, (enc x).length = sz) {o : Oper} {K : PV → List Blk → Prop} {A : List (Nat × PV)} {H : List Blk} {x y : Operand} {t tx e e' : TypeId} {ti : TI} {b k : Nat} {l ys : List X} {f : Bool}
    (ho : o.op = .call { callee := .builtin .append, args := #[x, y], argTypes := #[t, tx] }) (ht : P.underlying t = some (.slice e)) (he : tiOf P e = some ti) (hti : ti.size = sz) (htx : P.underlying tx = some (.slice e')) (hx : ev Γ A x = .row b 0 k sz) (hbk : H[b]? = some (.row sz ((l.map enc).flatten))) (hk' : k = l.length)
    (hy : ev Γ A y = .vec (ys.map enc) f) (hbd : (k + ys.length) * ti.bytes ≤ 140737488355328) (hbd' : k + ys.length ≤ 9223372036854775807)
    (hk : K (.row b 0 (k + ys.length) sz) (H.set b (.row sz (((l ++ ys).map enc).flatten)))) : OStep P Γ o A H K := by
  subst hti
  refine os_appendR (n := ys.length) ho ht he htx (.inl ⟨_, rfl⟩) hx hbk (by rw [flat_len hE, hk', Nat.zero_add]) (by rw [hy]; rfl) (fun es f' h e he => by
    rw [hy] at h
    cases h
    exact chunk_enc hE ys e he) (by rw [hy]; simp [alen]) hbd hbd' ?_
  rw [List.map_append, List.flatten_append] at hk
  exact hk
theorem aops_pushs {X : Type} {enc : X → List PV} {sz : Nat} (hE : ∀ x, (enc x).length = sz) {o : Oper} {Q : List (Nat × PV) → List Blk → Prop} {rest : List Oper} {A : List (Nat × PV)} {H H' : List Blk} {x y : Operand} {t tx e e' : TypeId} {ti : TI} {b k : Nat} {l ys : List X} {f : Bool}
    (ho : o.op = .call { callee := .builtin .append, args := #[x, y], argTypes := #[t, tx] }) (hg : o.guard = none) (ht : P.underlying t = some (.slice e)) (he : tiOf P e = some ti) (hti : ti.size = sz) (htx : P.underlying tx = some (.slice e')) (hx : ev Γ A x = .row b 0 k sz) (hbk : H[b]? = some (.row sz ((l.map enc).flatten))) (hk' : k = l.length)
    (hy : ev Γ A y = .vec (ys.map enc) f) (hbd : (k + ys.length) * ti.bytes ≤ 140737488355328) (hbd' : k + ys.length ≤ 9223372036854775807) (hH : H.set b (.row sz (((l ++ ys).map enc).flatten)) = H')
    (hk : AOps P Γ ops Q rest (aput A o.dst (.row b 0 (k + ys.length) sz)) H') : AOps P Γ ops Q (o :: rest) A H := by
  subst hH
  exact aops_one hg (os_pushs hE ho ht he hti htx hx hbk hk' hy hbd hbd' hk)
theorem dops_pushs3 {X : Type} {enc : X → List PV} {sz : Nat} (hE : ∀ x, (enc x).length = sz) {i : Nat} {o : Oper} {K : List (Nat × PV) → List Blk → Prop} {rest : List (Nat × Oper)} {A : List (Nat × PV)} {H H' : List Blk} {x y : Operand} {t tx e e' : TypeId} {ti : TI} {b k : Nat} {l ys : List X} {f : Bool}
    (ho : o.op = .call { callee := .builtin .append, args := #[x, y], argTypes := #[t, tx] }) (hw : wantA ops A o = some true) (hc : cls.getD i 0 = 3) (ht : P.underlying t = some (.slice e)) (he : tiOf P e = some ti) (hti : ti.size = sz) (htx : P.underlying tx = some (.slice e')) (hx : ev Γ A x = .row b 0 k sz) (hbk : H[b]? = some (.row sz ((l.map enc).flatten))) (hk' : k = l.length)
    (hy : ev Γ A y = .vec (ys.map enc) f) (hbd : (k + ys.length) * ti.bytes ≤ 140737488355328) (hbd' : k + ys.length ≤ 9223372036854775807) (hH : H.set b (.row sz (((l ++ ys).map enc).flatten)) = H') (hv : n0.n ≤ b)
    (hk : DOps P Γ ops cls n0 K rest (aput A o.dst (.row b 0 (k + ys.length) sz)) H') : DOps P Γ ops cls n0 K ((i, o) :: rest) A H := by
  subst hH
  exact dops_makes _ hw hc (vw_above H _ hv) (fun A' hev => by
    have ex := hev x (call_ops ho (by simp))
    have ey := hev y (call_ops ho (by simp))
    exact os_pushs hE ho ht he hti htx (ex.trans hx) hbk hk' (ey.trans hy) hbd hbd' ⟨rfl, rfl⟩) hk
theorem gives_of_rowIn {X : Type} {enc : X → List PV} {sz : Nat} (hE : ∀ x, (enc x).length = sz) {f : FuncId} {args : List PV} {l : List X} (hp : PV.plainL ((l.map enc).flatten) = true)
    (h : ∀ H, ACalls P Γ f args H (RowIn H sz l.length ((l.map enc).flatten))) : Gives P Γ f args (.vec (l.map enc) false) := by
  intro H w0 G w vs hs ha
  refine (h H w0 G w vs hs ha).mono fun e w' ⟨v, p, H', G', k1, k2, k3, k4, k5, k6⟩ => ?_
  obtain ⟨b, L, rfl, rfl, h1, hb⟩ := k6
  obtain ⟨G2, g1, g2, g3⟩ := k2.freeze hb hp
  have hr := g3 _ H.length 0 l.length v k3 (by rw [flat_len hE]; omega)
  rw [List.drop_zero, flat_chunk hE] at hr
  have ht : ((H ++ L).set b .dead).take H.length = H := by rw [List.take_set_of_le h1]; simp
  have hg := g1.take H.length (by simp) (by rw [ht]; exact fun B hB => hs.bound B hB)
  rw [ht] at hg
  exact ⟨v, _, H, G2, k1, hg, hr, k4.trans g2 (by simp), Nat.le_refl _, rfl, rfl⟩
theorem gives_of_row {X : Type} {enc : X → List PV} {sz : Nat} (hE : ∀ x, (enc x).length = sz) {f : FuncId} {args : List PV} {l : List X} (hp : PV.plainL ((l.map enc).flatten) = true)
    (h : ∀ H, ACalls P Γ f args H (fun p H' => p = .row H.length 0 l.length sz ∧ H' = H ++ [.row sz ((l.map enc).flatten)])) : Gives P Γ f args (.vec (l.map enc) false) :=
  gives_of_rowIn hE hp fun H => (h H).mono fun p H' ⟨h1, h2⟩ => ⟨H.length, _, h1, h2, Nat.le_refl _, by rw [h2]; exact get_at0 H _⟩
end
theorem calls_cut {P : Program} {Γ : Nat → PV} {fn : Func} {n : Nat} {p : PV} {R : PV → List Blk → Prop} {A' : List (Nat × PV)} (H1 L : List Blk) {e : Exit} (he : e = .ret ∨ e = .normal) (hbd : ∀ B ∈ H1, B.bd H1.length = true) (h : ares P Γ A' (H1 ++ L) fn.results.toList = some p) (hp : p.bd H1.length = true) (hn : n ≤ H1.length) (hR : R p H1) :
    RetQ P Γ fn n R e A' (H1 ++ L) [] := by
  have ht : (H1 ++ L).take H1.length = H1 := List.take_left' rfl
  exact ⟨he, List.nodup_nil, (fun b hb => by cases hb), p, H1.length, h, hn, by simp, fun b hb => (by cases hb), hp, by rw [ht]; exact hbd, by rw [ht]; exact hR⟩
inductive Pt where
  | word (s : List UInt8) | mark (s : List UInt8) | name (s : List UInt8) | kid (t : Tm)
namespace Pt
def pv : Pt → PV
  | word s => .iface 72 (.str s)
  | mark s => .iface 73 (.str s)
  | name s => .iface 69 (.str s)
  | kid t => .iface 67 (.agg t.enc)
def enc (p : Pt) : List PV := [p.pv]
theorem enc_len (p : Pt) : p.enc.length = 1 := rfl
theorem fw : (∀ p : Pt, p.enc.length = 1) ∧ (∀ p : Pt, p.enc[0]? = some p.pv) := ⟨fun _ => rfl, fun _ => rfl⟩
end Pt
mutual
def toksT : Tm → List Tk
  | .mk k s n ks => layT k s n (wrapsT ks)
def wrapsT : List Tm → List (List Tk)
  | [] => []
  | t :: ts => (if t.kind = 1 ∨ t.kind = 2 then toksT t else ⟨4, [40], 0⟩ :: toksT t ++ [⟨4, [41], 0⟩]) :: wrapsT ts
def layT (k : Int) (s : List UInt8) (n : Int) (W : List (List Tk)) : List Tk :=
  let k0 := W.getD 0 []
  let k1 := W.getD 1 []
  let k2 := W.getD 2 []
  if k = 1 then [⟨2, Lib.itoa n, n⟩]
  else if k = 2 then [⟨1, s, 0⟩]
  else if k = 3 then [⟨3, [102, 117, 110], 0⟩, ⟨1, s, 0⟩, ⟨4, [61, 62], 0⟩] ++ k0
  else if k = 4 then k0 ++ k1
  else if k = 5 then [⟨3, [108, 101, 116], 0⟩, ⟨1, s, 0⟩, ⟨4, [61], 0⟩] ++ k0 ++ [⟨3, [105, 110], 0⟩] ++ k1
  else if k = 6 then [⟨3, [105, 102], 0⟩] ++ k0 ++ [⟨3, [116, 104, 101, 110], 0⟩] ++ k1 ++ [⟨3, [101, 108, 115, 101], 0⟩] ++ k2
  else if k = 7 then [⟨3, [119, 104, 105, 108, 101], 0⟩] ++ k0 ++ [⟨3, [100, 111], 0⟩] ++ k1
  else if k = 8 then [⟨3, [114, 97, 105, 115, 101], 0⟩] ++ k0
  else if k = 9 then [⟨3, [116, 114, 121], 0⟩] ++ k0 ++ [⟨3, [119, 105, 116, 104], 0⟩, ⟨1, s, 0⟩, ⟨4, [61, 62], 0⟩] ++ k1
  else if k = 10 then [⟨4, [33], 0⟩] ++ k0
  else if k = 11 then k0 ++ [⟨4, [58, 61], 0⟩] ++ k1
  else if k = 12 then k0 ++ [⟨4, s, 0⟩] ++ k1
  else k0 ++ [⟨4, [59], 0⟩] ++ k1
end
def withinT (t : Tm) : List Tk := if t.kind = 1 ∨ t.kind = 2 then toksT t else ⟨4, [40], 0⟩ :: toksT t ++ [⟨4, [41], 0⟩]
theorem wrapsT_map : ∀ l : List Tm, wrapsT l = l.map withinT
  | [] => by rw [wrapsT]; rfl
  | t :: l => by rw [wrapsT, wrapsT_map l]; rfl
theorem toksT_eq (t : Tm) : toksT t = layT t.kind t.name t.n (t.kids.map withinT) := by cases t; rw [toksT, wrapsT_map]; rfl
def Pt.toks : Pt → List Tk
  | .word s => [⟨3, s, 0⟩]
  | .mark s => [⟨4, s, 0⟩]
  | .name s => [⟨1, s, 0⟩]
  | .kid t => withinT t
def laidT (l : List Pt) : List Tk := (l.map Pt.toks).flatten
theorem laidT_snoc (l : List Pt) (p : Pt) : laidT (l ++ [p]) = laidT l ++ p.toks := by simp [laidT]
theorem laidT_take (l : List Pt) (i : Nat) : (laidT (l.take i)).length ≤ (laidT l).length := by
  have : laidT l = laidT (l.take i) ++ laidT (l.drop i) := by
    unfold laidT
    rw [← List.flatten_append, ← List.map_append, List.take_append_drop]
  rw [this, List.length_append]; omega
theorem Tk.bdM {m : Nat} (l : List Tk) : PV.bdL m ((l.map Tk.enc).flatten) = true := flat_bd (fun t => Tk.fw.2.2.2.2.2.2.2 m t) l
set_option maxHeartbeats 4000000 in
theorem c37 (Γ : Nat → PV) (l : List Pt) (f : Bool) (hk : ∀ t, Pt.kid t ∈ l → Gives Tryz.prog Γ 60 [.agg t.enc] (.vec ((withinT t).map Tk.enc) false)) (hL : (laidT l).length ≤ 1000000000000) (H : List Blk) :
    ACalls Tryz.prog Γ 37 [.vec (l.map Pt.enc) f] H (fun p H' => p = .row H.length 0 (laidT l).length 3 ∧ H' = H ++ [.row 3 (((laidT l).map Tk.enc).flatten)]) := by
  refine acalls_of_awp Tryz.func37 rfl (by simp [Tryz.f37]) fun hbd => ?_
  refine awp_vlen 0 rfl fun hlv => ?_
  rw [List.length_map] at hlv
  refine awp_seq ?_
  refine awp_run rfl (by simp only [fwA, seval] <;> rfl) ?_
  refine awp_seq ?_
  refine awp_run rfl (by simp only [fwA, seval] <;> rfl) ?_
  refine awp_seq ?_
  refine awp_seq ?_
  refine awp_run rfl (by simp only [fwA, seval, gfw, bx, dx] <;> rfl) ?_
  refine awp_told (told_adopt 3 3 (by decide) rfl) ?_
  refine awp_block ?_
  refine awp_forG [3, 10, 11, 12] (fun i : Nat => [.row H.length 0 (laidT (l.take i)).length 3, .vec (l.map Pt.enc) f, .int .i64 (l.length : Int), .int .i64 (i : Int)])
    (fun i => H ++ [.row 3 (((laidT (l.take i)).map Tk.enc).flatten)]) (fun i => l.length - i) (fun i => i ≤ l.length) 0 rfl rfl (Nat.zero_le _)
    (fun i _ => ⟨bd_app (fun B hB => hbd B hB) (by simp only [List.all_cons, List.all_nil, Blk.bd, Tk.bdM, Bool.and_true]), by simp [PV.bdL, PV.bd]⟩) (fun i _ b hb => by cases hb) fun i hi => ?_
  refine awp_seq ?_
  refine awp_run rfl (by simp only [fwA, seval, gfw, bx, dx] <;> rfl) ?_
  refine awp_seq ?_
  refine awp_cond (by simp only [fwA, seval] <;> rfl) ?_
  by_cases hc : (i : Int) < l.length
  rotate_left
  · simp only [hc, decide_false, Bool.false_eq_true, ↓reduceIte]
    refine awp_exit ?_
    have e : i = l.length := by omega
    subst e
    rw [List.take_length]
    refine awp_seq ?_
    refine awp_run rfl (by simp only [fwA, seval, gfw, bx, dx] <;> rfl) ?_
    refine awp_ret ?_
    refine calls_at (fn := Tryz.f37) (p := .row H.length 0 (laidT l).length 3) (.inl rfl) (bd_app (fun B hB => hbd B hB) (by simp only [List.all_cons, List.all_nil, Blk.bd, Tk.bdM, Bool.and_true])) (by simp [ares, aresL, ares1, alook, Tryz.f37]) (by simp [PV.bd]) (by simp) ⟨rfl, rfl⟩
  simp only [hc, decide_true, ↓reduceIte]
  refine awp_skip ?_
  have hil : i < l.length := by omega
  obtain ⟨z, hz⟩ : ∃ z, l[i]? = some z := ⟨_, List.getElem?_eq_getElem hil⟩
  have hts : laidT (l.take (i + 1)) = laidT (l.take i) ++ z.toks := by rw [take_snoc hz, laidT_snoc]
  have hle := laidT_take l (i + 1)
  rw [hts, List.length_append] at hle
  have hwi : IntKind.i64.wrap ((i : Int) + 1) = ((i + 1 : Nat) : Int) := wrapS i (by omega)
  have hg : (H ++ [Blk.row 3 (((laidT (l.take i)).map Tk.enc).flatten)])[H.length]? = some (Blk.row 3 (((laidT (l.take i)).map Tk.enc).flatten)) := get_at0 H _
  have hmem := List.mem_of_getElem? hz
  have n1 : ∀ ms, TypeDesc.string ≠ .interface ms := nofun
  refine awp_seq ?_
  refine awp_block ?_
  refine awp_seq ?_
  refine awp_run rfl (by simp only [fwA, seval, gfw, bx, dx, hz, Pt.fw] <;> rfl) ?_
  refine awp_seq ?_
  refine awp_run rfl (by simp only [fwA, seval, gfw, bx, dx] <;> rfl) ?_
  refine awp_block ?_
  cases z with
  | word s =>
    simp only [Pt.toks, List.length_cons, List.length_nil] at hle hts
    refine awp_seq ?_
    refine awp_region rfl ?_
    refine aops_one rfl (os_assert rfl un72 n1 rfl rfl ?_)
    refine aops_run 2 (by simp only [fwA, seval, gfw, bx, dx] <;> rfl) ?_
    refine aops_end ?_
    refine awp_cond (b := true) (by simp [alook, aput, ev]) ?_
    refine awp_seq ?_
    refine awp_run rfl (by simp only [fwA, seval, gfw, bx, dx] <;> rfl) ?_
    refine awp_region rfl ?_
    refine aops_run 4 (by simp only [fwA, seval, gfw, bx, dx] <;> rfl) ?_
    refine aops_push (enc := Tk.enc) (l := laidT (l.take i)) (z := ⟨3, s, 0⟩) Tk.enc_len rfl rfl un30 ti45 rfl un30 rfl hg rfl rfl (by show (_ + 1) * 32 ≤ _; omega) (by omega) rfl ?_
    refine aops_run 1 (by simp only [fwA, seval, gfw, bx, dx] <;> rfl) ?_
    refine aops_end ?_
    refine awp_run rfl (by simp only [fwA, seval, gfw, bx, dx] <;> rfl) ?_
    refine ⟨i + 1, [], by omega, by omega, by simp only [fwA, seval, List.map_cons, List.map_nil, hwi, hts, List.length_append, List.length_cons, List.length_nil], ?_, rfl, by simp⟩
    rw [hts]; simp
  | mark s =>
    simp only [Pt.toks, List.length_cons, List.length_nil] at hle hts
    refine awp_seq ?_
    refine awp_region rfl ?_
    refine aops_one rfl (os_assertNot rfl un72 n1 ti72 rfl (by decide) ?_)
    refine aops_run 2 (by simp only [fwA, seval, gfw, bx, dx] <;> rfl) ?_
    refine aops_end ?_
    refine awp_cond (b := false) (by simp [alook, aput, ev]) ?_
    refine awp_seq ?_
    refine awp_region rfl ?_
    refine aops_one rfl (os_assert rfl un73 n1 rfl rfl ?_)
    refine aops_run 2 (by simp only [fwA, seval, gfw, bx, dx] <;> rfl) ?_
    refine aops_end ?_
    refine awp_cond (b := true) (by simp [alook, aput, ev]) ?_
    refine awp_seq ?_
    refine awp_run rfl (by simp only [fwA, seval, gfw, bx, dx] <;> rfl) ?_
    refine awp_region rfl ?_
    refine aops_run 4 (by simp only [fwA, seval, gfw, bx, dx] <;> rfl) ?_
    refine aops_push (enc := Tk.enc) (l := laidT (l.take i)) (z := ⟨4, s, 0⟩) Tk.enc_len rfl rfl un30 ti45 rfl un30 rfl hg rfl rfl (by show (_ + 1) * 32 ≤ _; omega) (by omega) rfl ?_
    refine aops_run 1 (by simp only [fwA, seval, gfw, bx, dx] <;> rfl) ?_
    refine aops_end ?_
    refine awp_run rfl (by simp only [fwA, seval, gfw, bx, dx] <;> rfl) ?_
    refine ⟨i + 1, [], by omega, by omega, by simp only [fwA, seval, List.map_cons, List.map_nil, hwi, hts, List.length_append, List.length_cons, List.length_nil], ?_, rfl, by simp⟩
    rw [hts]; simp
  | name s =>
    simp only [Pt.toks, List.length_cons, List.length_nil] at hle hts
    refine awp_seq ?_
    refine awp_region rfl ?_
    refine aops_one rfl (os_assertNot rfl un72 n1 ti72 rfl (by decide) ?_)
    refine aops_run 2 (by simp only [fwA, seval, gfw, bx, dx] <;> rfl) ?_
    refine aops_end ?_
    refine awp_cond (b := false) (by simp [alook, aput, ev]) ?_
    refine awp_seq ?_
    refine awp_region rfl ?_
    refine aops_one rfl (os_assertNot rfl un73 n1 ti73 rfl (by decide) ?_)
    refine aops_run 2 (by simp only [fwA, seval, gfw, bx, dx] <;> rfl) ?_
    refine aops_end ?_
    refine awp_cond (b := false) (by simp [alook, aput, ev]) ?_
    refine awp_seq ?_
    refine awp_region rfl ?_
    refine aops_one rfl (os_assert rfl un69 n1 rfl rfl ?_)
    refine aops_run 2 (by simp only [fwA, seval, gfw, bx, dx] <;> rfl) ?_
    refine aops_end ?_
    refine awp_cond (b := true) (by simp [alook, aput, ev]) ?_
    refine awp_seq ?_
    refine awp_run rfl (by simp only [fwA, seval, gfw, bx, dx] <;> rfl) ?_
    refine awp_region rfl ?_
    refine aops_run 4 (by simp only [fwA, seval, gfw, bx, dx] <;> rfl) ?_
    refine aops_push (enc := Tk.enc) (l := laidT (l.take i)) (z := ⟨1, s, 0⟩) Tk.enc_len rfl rfl un30 ti45 rfl un30 rfl hg rfl rfl (by show (_ + 1) * 32 ≤ _; omega) (by omega) rfl ?_
    refine aops_run 1 (by simp only [fwA, seval, gfw, bx, dx] <;> rfl) ?_
    refine aops_end ?_
    refine awp_run rfl (by simp only [fwA, seval, gfw, bx, dx] <;> rfl) ?_
    refine ⟨i + 1, [], by omega, by omega, by simp only [fwA, seval, List.map_cons, List.map_nil, hwi, hts, List.length_append, List.length_cons, List.length_nil], ?_, rfl, by simp⟩
    rw [hts]; simp
  | kid t =>
    have h45 := hk t hmem
    simp only [Pt.toks] at hle hts
    refine awp_seq ?_
    refine awp_region rfl ?_
    refine aops_one rfl (os_assertNot rfl un72 n1 ti72 rfl (by decide) ?_)
    refine aops_run 2 (by simp only [fwA, seval, gfw, bx, dx] <;> rfl) ?_
    refine aops_end ?_
    refine awp_cond (b := false) (by simp [alook, aput, ev]) ?_
    refine awp_seq ?_
    refine awp_region rfl ?_
    refine aops_one rfl (os_assertNot rfl un73 n1 ti73 rfl (by decide) ?_)
    refine aops_run 2 (by simp only [fwA, seval, gfw, bx, dx] <;> rfl) ?_
    refine aops_end ?_
    refine awp_cond (b := false) (by simp [alook, aput, ev]) ?_
    refine awp_seq ?_
    refine awp_region rfl ?_
    refine aops_one rfl (os_assertNot rfl un69 n1 ti69 rfl (by decide) ?_)
    refine aops_run 2 (by simp only [fwA, seval, gfw, bx, dx] <;> rfl) ?_
    refine aops_end ?_
    refine awp_cond (b := false) (by simp [alook, aput, ev]) ?_
    refine awp_seq ?_
    refine awp_region rfl ?_
    refine aops_one rfl (os_assert rfl Tryz.underlying67 nofun rfl rfl ?_)
    refine aops_run 2 (by simp only [fwA, seval, gfw, bx, dx] <;> rfl) ?_
    refine aops_end ?_
    refine awp_cond (b := true) (by simp [alook, aput, ev]) ?_
    refine awp_seq ?_
    refine awp_run rfl (by simp only [fwA, seval, gfw, bx, dx, Tm.fw] <;> rfl) ?_
    have hg2 : (H ++ [Blk.row 3 (((laidT (l.take i)).map Tk.enc).flatten), .box t.enc])[H.length]? = some (.row 3 (((laidT (l.take i)).map Tk.enc).flatten)) := by simp
    refine awp_region rfl ?_
    refine aops_run 3 (by simp only [fwA, seval, gfw, bx, dx, Tm.fw] <;> rfl) ?_
    refine aops_fn rfl rfl rfl en60 h45 ?_
    refine aops_pushs (enc := Tk.enc) (l := laidT (l.take i)) (ys := withinT t) Tk.enc_len rfl rfl un30 ti45 rfl un30 rfl (by simp) rfl rfl (by show (_ + _) * 32 ≤ _; omega) (by omega) rfl ?_
    refine aops_run 1 (by simp only [fwA, seval, gfw, bx, dx, Tm.fw] <;> rfl) ?_
    refine aops_end ?_
    refine awp_run rfl (by simp only [fwA, seval, gfw, bx, dx] <;> rfl) ?_
    refine ⟨i + 1, [.box t.enc], by omega, by omega, by simp only [fwA, seval, List.map_cons, List.map_nil, hwi, hts, List.length_append], ?_, rfl, by simp⟩
    rw [hts]; simp
end Go.Proofs.YtddnigahjahkbaaGreatDoor
namespace Go.Proofs.YtddnigahjahkbaaGreatDoor
set_option linter.unusedVariables false
set_option linter.unusedSimpArgs false
set_option maxRecDepth 100000
open Go.RowKit Fw
section
variable {P : Program} {Γ : Nat → PV} {ops : Array Oper} {cls : List Nat} {n0 : View}
theorem dops_lent {i : Nat} {o : Oper} {K : List (Nat × PV) → List Blk → Prop} {rest : List (Nat × Oper)} {A : List (Nat × PV)} {H : List Blk} {x : Operand} {args : Array Operand} {ts : Array TypeId} {f : FuncId} {fs cs : List PV} {p : PV}
    (ho : o.op = .call { callee := .value x, args := args, argTypes := ts }) (hw : wantA ops A o = some true) (hc : cls.getD i 0 = 1) (hx : ev Γ A x = .func (.func f) fs cs) (he : Enters P f)
    (h : ACalls P Γ f (fs ++ args.toList.map (ev Γ A) ++ cs) H (fun q H1 => q = p ∧ H1 = H)) (hk : DOps P Γ ops cls n0 K rest (aput A o.dst p) H) : DOps P Γ ops cls n0 K ((i, o) :: rest) A H :=
  dops_reads p hw hc (fun A' hev => by
    have hops : ∀ y, y = x ∨ y ∈ args → ev Γ A' y = ev Γ A y := fun y hy => hev y (by
      rw [ho]
      simp only [Op.operands, Call.operands, Array.mem_append]
      rcases hy with rfl | hy
      · exact .inl (by simp)
      · exact .inr hy)
    refine os_call ho (by rw [hops x (.inl rfl)]; exact hx) he ?_
    rw [List.map_congr_left (l := args.toList) fun y hy => hops y (.inr (by simpa using hy))]
    exact h) hk
end
theorem c32g (Γ : Nat → PV) (l : List Pt) (f : Bool) (hk : ∀ t, Pt.kid t ∈ l → Gives Tryz.prog Γ 60 [.agg t.enc] (.vec ((withinT t).map Tk.enc) false)) (hL : (laidT l).length ≤ 1000000000000) :
    Gives Tryz.prog Γ 37 [.vec (l.map Pt.enc) f] (.vec ((laidT l).map Tk.enc) false) :=
  gives_of_row Tk.enc_len (by
    induction laidT l with
    | nil => rfl
    | cons z zs ih => rw [List.map_cons, List.flatten_cons]; exact ih) fun H => c37 Γ l f hk hL H
theorem c35 (Γ : Nat → PV) (H : List Blk) (b : Nat) (t : Tm) (i : Nat) (k : Tm) (hb : H[b]? = some (.box t.enc)) (hk : t.kids[i]? = some k) : ACalls Tryz.prog Γ 35 [.int .i64 i, .ptr b 0] H (fun q H' => q = .agg k.enc ∧ H' = H) := by
  refine acalls_of_awp Tryz.func35 rfl (by simp [Tryz.f35]) fun hbd => ?_
  have hbl : b < H.length := (List.getElem?_eq_some_iff.1 hb).1
  have hi := (List.getElem?_eq_some_iff.1 hk).1
  have hb2 : ∀ L, (H ++ L)[b]? = some (.box t.enc) := fun L => by rw [List.getElem?_append_left hbl]; exact hb
  refine awp_seq ?_
  refine awp_run rfl (by simp only [fwA, seval, gfw, bx, dx] <;> rfl) ?_
  refine awp_seq ?_
  refine awp_run rfl (by simp only [fwA, seval, gfw, bx, dx, hb2, Tm.fw, hk, Tryz.underlying67] <;> rfl) ?_
  refine awp_ret ?_
  exact calls_end (fn := Tryz.f35) (R := fun q H' => q = .agg k.enc ∧ H' = H) (p := .agg k.enc) _ (.inl rfl) hbd (by simp only [fwA, seval, gfw, bx, ares, aresL, ares1, Tryz.f35, Tm.fw]) (by simp [PV.bd, Tm.fw]) ⟨rfl, rfl⟩
theorem Tk.plainM (l : List Tk) : PV.plainL ((l.map Tk.enc).flatten) = true := by
  induction l with
  | nil => rfl
  | cons z zs ih => rw [List.map_cons, List.flatten_cons]; exact ih
theorem c60 (Γ : Nat → PV) (t : Tm) (h18 : Gives Tryz.prog Γ 17 [.agg t.enc] (.vec ((toksT t).map Tk.enc) false)) (hL : (toksT t).length ≤ 1000000000) : Gives Tryz.prog Γ 60 [.agg t.enc] (.vec ((withinT t).map Tk.enc) false) := by
  by_cases h : t.kind = 1 ∨ t.kind = 2
  · refine fn_of_awp Tryz.func60 rfl (by simp [Tryz.f60]) rfl fun H => ?_
    refine awp_seq ?_
    refine awp_run rfl (by simp only [fwA, seval, gfw, bx, dx] <;> rfl) ?_
    refine awp_seq ?_
    refine awp_seq ?_
    rw [show withinT t = toksT t by unfold withinT; rw [if_pos h]]
    rcases h with h | h
    · refine awp_run rfl (by simp only [fwA, seval, gfw, bx, dx, Tm.fw, h] <;> rfl) ?_
      refine awp_cond (b := true) (by simp [alook, aput, ev]) ?_
      refine awp_seq ?_
      refine awp_region rfl ?_
      refine aops_run 1 (by simp only [fwA, seval, gfw, bx, dx, Tm.fw] <;> rfl) ?_
      refine aops_fn rfl rfl rfl en17 h18 ?_
      refine aops_run 1 (by simp only [fwA, seval, gfw, bx, dx, Tm.fw] <;> rfl) ?_
      refine aops_end ?_
      refine awp_ret ?_
      exact gives_end (.inl rfl) _ rfl
    · refine awp_run rfl (by simp only [fwA, seval, gfw, bx, dx, Tm.fw, h] <;> rfl) ?_
      refine awp_cond (b := true) (by simp [alook, aput, ev]) ?_
      refine awp_seq ?_
      refine awp_region rfl ?_
      refine aops_run 1 (by simp only [fwA, seval, gfw, bx, dx, Tm.fw] <;> rfl) ?_
      refine aops_fn rfl rfl rfl en17 h18 ?_
      refine aops_run 1 (by simp only [fwA, seval, gfw, bx, dx, Tm.fw] <;> rfl) ?_
      refine aops_end ?_
      refine awp_ret ?_
      exact gives_end (.inl rfl) _ rfl
  have h1 : ¬ t.kind = 1 := fun e => h (.inl e)
  have h2 : ¬ t.kind = 2 := fun e => h (.inr e)
  have hw : withinT t = [⟨4, [40], 0⟩] ++ toksT t ++ [⟨4, [41], 0⟩] := by unfold withinT; rw [if_neg h]; rfl
  refine gives_of_rowIn Tk.enc_len (Tk.plainM _) fun H => ?_
  refine acalls_of_awp Tryz.func60 rfl (by simp [Tryz.f60]) fun hbd => ?_
  refine awp_seq ?_
  refine awp_run rfl (by simp only [fwA, seval, gfw, bx, dx] <;> rfl) ?_
  refine awp_seq ?_
  refine awp_seq ?_
  refine awp_run rfl (by simp only [fwA, seval, gfw, bx, dx, Tm.fw, h1, h2] <;> rfl) ?_
  refine awp_cond (b := false) (by simp [alook, aput, ev]) (awp_skip ?_)
  refine awp_seq ?_
  have e40 := c37 Γ [.mark [40]] true (fun a ha => by simp at ha) (by decide) (H ++ [.box t.enc])
  have e41 := c32g Γ [.mark [41]] true (fun a ha => by simp at ha) (by decide)
  refine awp_drawn [0,0,3,4,0,3,0,0,0,3,0] [0, 1, 3, 0, 15, 31, 0, 64, 255, 511, 1023] mixed rfl (by kernel_rfl) ?_
  refine dops_run 2 (by simp only [fwA, seval, gfw, bx, dx, Tm.fw] <;> rfl) ?_
  refine dops_call3 rfl rfl rfl rfl en37 e40 (by simp [View.vw, List.take_append]) ?_
  refine dops_run 1 (by simp only [fwA, seval, gfw, bx, dx, Tm.fw] <;> rfl) ?_
  refine dops_fn rfl (by simp only [fwA, seval] <;> rfl) rfl rfl en17 h18 ?_
  refine dops_pushs3 (enc := Tk.enc) (l := laidT [.mark [40]]) (ys := toksT t) Tk.enc_len rfl rfl rfl un30 ti45 rfl un30 rfl (by simp) rfl rfl (by show (1 + _) * 32 ≤ _; omega) (by show 1 + _ ≤ _; omega) rfl (by simp) ?_
  refine dops_run 2 (by simp only [fwA, seval, gfw, bx, dx, Tm.fw] <;> rfl) ?_
  refine dops_fn rfl (by simp only [fwA, seval] <;> rfl) rfl rfl en37 e41 ?_
  refine dops_pushs3 (enc := Tk.enc) (l := laidT [.mark [40]] ++ toksT t) (ys := laidT [.mark [41]]) Tk.enc_len rfl rfl rfl un30 ti45 rfl un30 rfl (by simp) (by rw [List.length_append]) rfl (by show (1 + _ + 1) * 32 ≤ _; omega) (by show 1 + _ + 1 ≤ _; omega) rfl (by simp) ?_
  refine dops_run 1 (by simp only [fwA, seval, gfw, bx, dx, Tm.fw] <;> rfl) ?_
  refine dops_end ?_
  have hl : (laidT [Pt.mark [40]]).length + (toksT t).length + (laidT [Pt.mark [41]]).length = (withinT t).length := by rw [hw, List.length_append, List.length_append]; rfl
  have he : laidT [Pt.mark [40]] ++ toksT t ++ laidT [Pt.mark [41]] = withinT t := hw.symm
  refine awp_ret ?_
  rw [hl, he]
  refine calls_at (fn := Tryz.f60) (R := RowIn H 3 (withinT t).length (((withinT t).map Tk.enc).flatten)) (p := .row (H.length + 1) 0 (withinT t).length 3) (.inl rfl) ?_ (by simp [ares, aresL, ares1, alook, Tryz.f60]) (by simp [PV.bd]) (by simp) ⟨H.length + 1, [.box t.enc, .row 3 (((withinT t).map Tk.enc).flatten)], rfl, by simp, by omega, by simp⟩
  exact bd_app (fun B hB => hbd B hB) (by simp [Blk.bd, Tk.bdM, Tm.bd])
theorem len2 {X : Type} {l : List X} (h : l.length = 2) : ∃ a b, l = [a, b] := by
  match l, h with
  | [a, b], _ => exact ⟨a, b, rfl⟩
theorem len3 {X : Type} {l : List X} (h : l.length = 3) : ∃ a b c, l = [a, b, c] := by
  match l, h with
  | [a, b, c], _ => exact ⟨a, b, c, rfl⟩
theorem getD3 {X : Type} (W : List (List X)) : (W.getD 0 []).length + (W.getD 1 []).length + (W.getD 2 []).length ≤ (W.map List.length).sum := by
  match W with
  | [] => simp
  | [a] => simp
  | [a, b] => simp
  | a :: b :: c :: r => simp; omega
theorem ite_len {X : Type} {c : Prop} [Decidable c] {a b : List X} {n : Nat} (ha : a.length ≤ n) (hb : b.length ≤ n) : (if c then a else b).length ≤ n := by split <;> assumption
theorem lay_len (k : Int) (s : List UInt8) (n : Int) (W : List (List Tk)) : (layT k s n W).length ≤ 4 + (W.map List.length).sum := by
  have h := getD3 W
  unfold layT
  simp only
  generalize W.getD 0 [] = k0 at h ⊢
  generalize W.getD 1 [] = k1 at h ⊢
  generalize W.getD 2 [] = k2 at h ⊢
  repeat' apply ite_len
  all_goals (try simp only [List.length_append, List.length_cons, List.length_nil])
  all_goals omega
theorem toks_len : ∀ t : Tm, (toksT t).length + 2 ≤ 6 * t.w := by
  refine Tm.ind fun t ih => ?_
  rw [toksT_eq, Tm.w_eq]
  have h := lay_len t.kind t.name t.n (t.kids.map withinT)
  have h2 : ((t.kids.map withinT).map List.length).sum ≤ 6 * (t.kids.map Tm.w).sum := by
    generalize t.kids = l at ih
    induction l with
    | nil => simp
    | cons a l ihl =>
      have h3 := ih a (by simp)
      have h4 := ihl fun x hx => ih x (by simp [hx])
      have h5 : (withinT a).length ≤ (toksT a).length + 2 := by
        unfold withinT
        split
        · omega
        · simp only [List.length_append, List.length_cons, List.length_nil]; omega
      simp only [List.map_cons, List.sum_cons] at h4 ⊢
      omega
  omega
set_option maxHeartbeats 16000000 in
theorem c17 (Γ : Nat → PV) (hΓ : Tab Γ) : ∀ t : Tm, Nodes t → t.w ≤ 100000000 → Gives Tryz.prog Γ 17 [.agg t.enc] (.vec ((toksT t).map Tk.enc) false) := by
  refine Tm.ind fun t ih hN hw => ?_
  obtain ⟨⟨hk1, hk2⟩, hlen, hn1, hn2, hn3, hnm⟩ := hN.node
  have hks := hN.kids
  have hL := toks_len t
  have h45 : ∀ k ∈ t.kids, Gives Tryz.prog Γ 60 [.agg k.enc] (.vec ((withinT k).map Tk.enc) false) := fun k hk => by
    have h1 := Tm.kid_w hk
    have h2 := toks_len k
    exact c60 Γ k (ih k hk (hks k hk) (by omega)) (by omega)
  have hcs : t.kind = 1 ∨ t.kind = 2 ∨ t.kind = 3 ∨ t.kind = 4 ∨ t.kind = 5 ∨ t.kind = 6 ∨ t.kind = 7 ∨ t.kind = 8 ∨ t.kind = 9 ∨ t.kind = 10 ∨ t.kind = 11 ∨ t.kind = 12 ∨ t.kind = 13 := by omega
  rcases hcs with hk | hk | hk | hk | hk | hk | hk | hk | hk | hk | hk | hk | hk
  · -- kind 1
    have hm : t.kids.length = 0 := by rw [hk] at hlen; have h0 : kidsTab.getD (Int.toNat 1) 0 = 0 := rfl; omega
    have e := List.eq_nil_of_length_eq_zero hm
    have ht : toksT t = [⟨2, Lib.itoa t.n, t.n⟩] := by rw [toksT_eq, hk]; simp [layT]
    have h31 := c36 Γ hΓ t.n ⟨by omega, by omega⟩
    refine Gives.res (p := .vec ((toksT t).map Tk.enc) true) ?_ ⟨nofun, PV.leLL_refl _⟩
    refine fn_of_awp Tryz.func17 rfl (by simp [Tryz.f17]) rfl fun H => ?_
    refine awp_seq ?_
    refine awp_run rfl (by simp only [fwA, seval, gfw, bx, dx] <;> rfl) ?_
    refine awp_seq ?_
    refine awp_run rfl (by simp only [fwA, seval, gfw, bx, dx] <;> rfl) ?_
    refine awp_seq ?_
    refine awp_run rfl (by simp only [fwA, seval, gfw, bx, dx, Tm.fw] <;> rfl) ?_
    refine awp_seq ?_
    refine awp_seq ?_
    refine awp_run rfl (by simp only [fwA, seval, gfw, bx, dx, Tm.fw, hk] <;> rfl) ?_
    refine awp_block ?_
    refine awp_seq ?_
    refine awp_run rfl (by simp only [fwA, seval, gfw, bx, dx, hk] <;> rfl) ?_
    refine awp_cond (b := true) (by simp [alook, aput, ev]) ?_
    refine awp_seq ?_
    refine awp_drawn [0, 1, 0, 0, 1, 0, 0, 0] [0, 1, 3, 0, 8, 31, 63, 127] mixed rfl (by kernel_rfl) ?_
    refine dops_run 2 (by simp only [fwA, seval, gfw, bx, dx, Tm.fw] <;> rfl) ?_
    refine dops_fn rfl (by simp only [fwA, seval] <;> rfl) rfl rfl en36 h31 ?_
    refine dops_run 5 (by simp only [fwA, seval, gfw, bx, dx, Tm.fw] <;> rfl) ?_
    refine dops_end ?_
    refine awp_ret ?_
    exact gives_end (.inl rfl) _ (by rw [ht]; rfl)
  · -- kind 2
    have hm : t.kids.length = 0 := by rw [hk] at hlen; have h0 : kidsTab.getD (Int.toNat 2) 0 = 0 := rfl; omega
    have e := List.eq_nil_of_length_eq_zero hm
    have ht : toksT t = laidT [.name t.name] := by rw [toksT_eq, hk, e]; simp [layT, laidT, Pt.toks]
    have h32 := c32g Γ [.name t.name] true (fun a ha => by simp at ha) (by rw [← ht]; omega)
    rw [← ht] at h32
    refine fn_of_awp Tryz.func17 rfl (by simp [Tryz.f17]) rfl fun H => ?_
    refine awp_seq ?_
    refine awp_run rfl (by simp only [fwA, seval, gfw, bx, dx] <;> rfl) ?_
    refine awp_seq ?_
    refine awp_run rfl (by simp only [fwA, seval, gfw, bx, dx] <;> rfl) ?_
    refine awp_seq ?_
    refine awp_run rfl (by simp only [fwA, seval, gfw, bx, dx, Tm.fw] <;> rfl) ?_
    refine awp_seq ?_
    refine awp_seq ?_
    refine awp_run rfl (by simp only [fwA, seval, gfw, bx, dx, Tm.fw, hk] <;> rfl) ?_
    refine awp_block ?_
    refine awp_seq ?_
    refine awp_run rfl (by simp only [fwA, seval, gfw, bx, dx, hk] <;> rfl) ?_
    refine awp_cond (b := false) (by simp [alook, aput, ev]) ?_
    refine awp_seq ?_
    refine awp_run rfl (by simp only [fwA, seval, gfw, bx, dx, hk] <;> rfl) ?_
    refine awp_cond (b := true) (by simp [alook, aput, ev]) ?_
    refine awp_seq ?_
    refine awp_region rfl ?_
    refine aops_run 3 (by simp only [fwA, seval, gfw, bx, dx, Tryz.underlying67, Tm.fw] <;> rfl) ?_
    refine aops_fn rfl rfl rfl en37 h32 ?_
    refine aops_run 1 (by simp only [fwA, seval, gfw, bx, dx, Tryz.underlying67, Tm.fw] <;> rfl) ?_
    refine aops_end ?_
    refine awp_ret ?_
    exact gives_end (.inl rfl) _ rfl
  · -- kind 3
    have hm : t.kids.length = 1 := by rw [hk] at hlen; have h0 : kidsTab.getD (Int.toNat 3) 0 = 1 := rfl; omega
    obtain ⟨k0, e⟩ := List.length_eq_one_iff.1 hm
    have g0 : t.kids[0]? = some k0 := by rw [e]; rfl
    have ht : toksT t = laidT [.word [102, 117, 110], .name t.name, .mark [61, 62], .kid k0] := by rw [toksT_eq, hk, e]; simp [layT, laidT, Pt.toks]
    have h32 := c32g Γ [.word [102, 117, 110], .name t.name, .mark [61, 62], .kid k0] true (fun a ha => h45 a (by simp at ha; rw [e]; simpa using ha)) (by rw [← ht]; omega)
    rw [← ht] at h32
    refine fn_of_awp Tryz.func17 rfl (by simp [Tryz.f17]) rfl fun H => ?_
    refine awp_seq ?_
    refine awp_run rfl (by simp only [fwA, seval, gfw, bx, dx] <;> rfl) ?_
    refine awp_seq ?_
    refine awp_run rfl (by simp only [fwA, seval, gfw, bx, dx] <;> rfl) ?_
    refine awp_seq ?_
    refine awp_run rfl (by simp only [fwA, seval, gfw, bx, dx, Tm.fw] <;> rfl) ?_
    refine awp_seq ?_
    refine awp_seq ?_
    refine awp_run rfl (by simp only [fwA, seval, gfw, bx, dx, Tm.fw, hk] <;> rfl) ?_
    refine awp_block ?_
    refine awp_seq ?_
    refine awp_run rfl (by simp only [fwA, seval, gfw, bx, dx, hk] <;> rfl) ?_
    refine awp_cond (b := false) (by simp [alook, aput, ev]) ?_
    refine awp_seq ?_
    refine awp_run rfl (by simp only [fwA, seval, gfw, bx, dx, hk] <;> rfl) ?_
    refine awp_cond (b := false) (by simp [alook, aput, ev]) ?_
    refine awp_seq ?_
    refine awp_run rfl (by simp only [fwA, seval, gfw, bx, dx, hk] <;> rfl) ?_
    refine awp_cond (b := true) (by simp [alook, aput, ev]) ?_
    refine awp_seq ?_
    refine awp_region rfl ?_
    refine aops_run 5 (by simp only [fwA, seval, gfw, bx, dx, Tryz.underlying67, Tm.fw] <;> rfl) ?_
    refine aops_call rfl rfl rfl en35 ((c35 Γ _ _ t 0 k0 (by simp) g0).mono fun q H' hq => ?_)
    obtain ⟨rfl, rfl⟩ := hq
    refine aops_run 2 (by simp only [fwA, seval, gfw, bx, dx, Tryz.underlying67, Tm.fw] <;> rfl) ?_
    refine aops_fn rfl rfl rfl en37 h32 ?_
    refine aops_run 1 (by simp only [fwA, seval, gfw, bx, dx, Tryz.underlying67, Tm.fw] <;> rfl) ?_
    refine aops_end ?_
    refine awp_ret ?_
    exact gives_end (.inl rfl) _ rfl
  · -- kind 4
    have hm : t.kids.length = 2 := by rw [hk] at hlen; have h0 : kidsTab.getD (Int.toNat 4) 0 = 2 := rfl; omega
    obtain ⟨k0, k1, e⟩ := len2 hm
    have g0 : t.kids[0]? = some k0 := by rw [e]; rfl
    have g1 : t.kids[1]? = some k1 := by rw [e]; rfl
    have ht : toksT t = laidT [.kid k0, .kid k1] := by rw [toksT_eq, hk, e]; simp [layT, laidT, Pt.toks]
    have h32 := c32g Γ [.kid k0, .kid k1] true (fun a ha => h45 a (by simp at ha; rw [e]; simpa using ha)) (by rw [← ht]; omega)
    rw [← ht] at h32
    refine fn_of_awp Tryz.func17 rfl (by simp [Tryz.f17]) rfl fun H => ?_
    refine awp_seq ?_
    refine awp_run rfl (by simp only [fwA, seval, gfw, bx, dx] <;> rfl) ?_
    refine awp_seq ?_
    refine awp_run rfl (by simp only [fwA, seval, gfw, bx, dx] <;> rfl) ?_
    refine awp_seq ?_
    refine awp_run rfl (by simp only [fwA, seval, gfw, bx, dx, Tm.fw] <;> rfl) ?_
    refine awp_seq ?_
    refine awp_seq ?_
    refine awp_run rfl (by simp only [fwA, seval, gfw, bx, dx, Tm.fw, hk] <;> rfl) ?_
    refine awp_block ?_
    refine awp_seq ?_
    refine awp_run rfl (by simp only [fwA, seval, gfw, bx, dx, hk] <;> rfl) ?_
    refine awp_cond (b := false) (by simp [alook, aput, ev]) ?_
    refine awp_seq ?_
    refine awp_run rfl (by simp only [fwA, seval, gfw, bx, dx, hk] <;> rfl) ?_
    refine awp_cond (b := false) (by simp [alook, aput, ev]) ?_
    refine awp_seq ?_
    refine awp_run rfl (by simp only [fwA, seval, gfw, bx, dx, hk] <;> rfl) ?_
    refine awp_cond (b := false) (by simp [alook, aput, ev]) ?_
    refine awp_seq ?_
    refine awp_run rfl (by simp only [fwA, seval, gfw, bx, dx, hk] <;> rfl) ?_
    refine awp_cond (b := true) (by simp [alook, aput, ev]) ?_
    refine awp_seq ?_
    refine awp_region rfl ?_
    refine aops_run 1 (by simp only [fwA, seval, gfw, bx, dx, Tryz.underlying67, Tm.fw] <;> rfl) ?_
    refine aops_call rfl rfl rfl en35 ((c35 Γ _ _ t 0 k0 (by simp) g0).mono fun q H' hq => ?_)
    obtain ⟨rfl, rfl⟩ := hq
    refine aops_run 2 (by simp only [fwA, seval, gfw, bx, dx, Tryz.underlying67, Tm.fw] <;> rfl) ?_
    refine aops_call rfl rfl rfl en35 ((c35 Γ _ _ t 1 k1 (by simp) g1).mono fun q H' hq => ?_)
    obtain ⟨rfl, rfl⟩ := hq
    refine aops_run 2 (by simp only [fwA, seval, gfw, bx, dx, Tryz.underlying67, Tm.fw] <;> rfl) ?_
    refine aops_fn rfl rfl rfl en37 h32 ?_
    refine aops_run 1 (by simp only [fwA, seval, gfw, bx, dx, Tryz.underlying67, Tm.fw] <;> rfl) ?_
    refine aops_end ?_
    refine awp_ret ?_
    exact gives_end (.inl rfl) _ rfl
  · -- kind 5
    have hm : t.kids.length = 2 := by rw [hk] at hlen; have h0 : kidsTab.getD (Int.toNat 5) 0 = 2 := rfl; omega
    obtain ⟨k0, k1, e⟩ := len2 hm
    have g0 : t.kids[0]? = some k0 := by rw [e]; rfl
    have g1 : t.kids[1]? = some k1 := by rw [e]; rfl
    have ht : toksT t = laidT [.word [108, 101, 116], .name t.name, .mark [61], .kid k0, .word [105, 110], .kid k1] := by rw [toksT_eq, hk, e]; simp [layT, laidT, Pt.toks]
    have h32 := c32g Γ [.word [108, 101, 116], .name t.name, .mark [61], .kid k0, .word [105, 110], .kid k1] true (fun a ha => h45 a (by simp at ha; rw [e]; simpa using ha)) (by rw [← ht]; omega)
    rw [← ht] at h32
    refine fn_of_awp Tryz.func17 rfl (by simp [Tryz.f17]) rfl fun H => ?_
    refine awp_seq ?_
    refine awp_run rfl (by simp only [fwA, seval, gfw, bx, dx] <;> rfl) ?_
    refine awp_seq ?_
    refine awp_run rfl (by simp only [fwA, seval, gfw, bx, dx] <;> rfl) ?_
    refine awp_seq ?_
    refine awp_run rfl (by simp only [fwA, seval, gfw, bx, dx, Tm.fw] <;> rfl) ?_
    refine awp_seq ?_
    refine awp_seq ?_
    refine awp_run rfl (by simp only [fwA, seval, gfw, bx, dx, Tm.fw, hk] <;> rfl) ?_
    refine awp_block ?_
    refine awp_seq ?_
    refine awp_run rfl (by simp only [fwA, seval, gfw, bx, dx, hk] <;> rfl) ?_
    refine awp_cond (b := false) (by simp [alook, aput, ev]) ?_
    refine awp_seq ?_
    refine awp_run rfl (by simp only [fwA, seval, gfw, bx, dx, hk] <;> rfl) ?_
    refine awp_cond (b := false) (by simp [alook, aput, ev]) ?_
    refine awp_seq ?_
    refine awp_run rfl (by simp only [fwA, seval, gfw, bx, dx, hk] <;> rfl) ?_
    refine awp_cond (b := false) (by simp [alook, aput, ev]) ?_
    refine awp_seq ?_
    refine awp_run rfl (by simp only [fwA, seval, gfw, bx, dx, hk] <;> rfl) ?_
    refine awp_cond (b := false) (by simp [alook, aput, ev]) ?_
    refine awp_seq ?_
    refine awp_run rfl (by simp only [fwA, seval, gfw, bx, dx, hk] <;> rfl) ?_
    refine awp_cond (b := true) (by simp [alook, aput, ev]) ?_
    refine awp_seq ?_
    refine awp_region rfl ?_
    refine aops_run 5 (by simp only [fwA, seval, gfw, bx, dx, Tryz.underlying67, Tm.fw] <;> rfl) ?_
    refine aops_call rfl rfl rfl en35 ((c35 Γ _ _ t 0 k0 (by simp) g0).mono fun q H' hq => ?_)
    obtain ⟨rfl, rfl⟩ := hq
    refine aops_run 3 (by simp only [fwA, seval, gfw, bx, dx, Tryz.underlying67, Tm.fw] <;> rfl) ?_
    refine aops_call rfl rfl rfl en35 ((c35 Γ _ _ t 1 k1 (by simp) g1).mono fun q H' hq => ?_)
    obtain ⟨rfl, rfl⟩ := hq
    refine aops_run 2 (by simp only [fwA, seval, gfw, bx, dx, Tryz.underlying67, Tm.fw] <;> rfl) ?_
    refine aops_fn rfl rfl rfl en37 h32 ?_
    refine aops_run 1 (by simp only [fwA, seval, gfw, bx, dx, Tryz.underlying67, Tm.fw] <;> rfl) ?_
    refine aops_end ?_
    refine awp_ret ?_
    exact gives_end (.inl rfl) _ rfl
  · -- kind 6
    have hm : t.kids.length = 3 := by rw [hk] at hlen; have h0 : kidsTab.getD (Int.toNat 6) 0 = 3 := rfl; omega
    obtain ⟨k0, k1, k2, e⟩ := len3 hm
    have g0 : t.kids[0]? = some k0 := by rw [e]; rfl
    have g1 : t.kids[1]? = some k1 := by rw [e]; rfl
    have g2 : t.kids[2]? = some k2 := by rw [e]; rfl
    have ht : toksT t = laidT [.word [105, 102], .kid k0, .word [116, 104, 101, 110], .kid k1, .word [101, 108, 115, 101], .kid k2] := by rw [toksT_eq, hk, e]; simp [layT, laidT, Pt.toks]
    have h32 := c32g Γ [.word [105, 102], .kid k0, .word [116, 104, 101, 110], .kid k1, .word [101, 108, 115, 101], .kid k2] true (fun a ha => h45 a (by simp at ha; rw [e]; simpa using ha)) (by rw [← ht]; omega)
    rw [← ht] at h32
    refine fn_of_awp Tryz.func17 rfl (by simp [Tryz.f17]) rfl fun H => ?_
    refine awp_seq ?_
    refine awp_run rfl (by simp only [fwA, seval, gfw, bx, dx] <;> rfl) ?_
    refine awp_seq ?_
    refine awp_run rfl (by simp only [fwA, seval, gfw, bx, dx] <;> rfl) ?_
    refine awp_seq ?_
    refine awp_run rfl (by simp only [fwA, seval, gfw, bx, dx, Tm.fw] <;> rfl) ?_
    refine awp_seq ?_
    refine awp_seq ?_
    refine awp_run rfl (by simp only [fwA, seval, gfw, bx, dx, Tm.fw, hk] <;> rfl) ?_
    refine awp_block ?_
    refine awp_seq ?_
    refine awp_run rfl (by simp only [fwA, seval, gfw, bx, dx, hk] <;> rfl) ?_
    refine awp_cond (b := false) (by simp [alook, aput, ev]) ?_
    refine awp_seq ?_
    refine awp_run rfl (by simp only [fwA, seval, gfw, bx, dx, hk] <;> rfl) ?_
    refine awp_cond (b := false) (by simp [alook, aput, ev]) ?_
    refine awp_seq ?_
    refine awp_run rfl (by simp only [fwA, seval, gfw, bx, dx, hk] <;> rfl) ?_
    refine awp_cond (b := false) (by simp [alook, aput, ev]) ?_
    refine awp_seq ?_
    refine awp_run rfl (by simp only [fwA, seval, gfw, bx, dx, hk] <;> rfl) ?_
    refine awp_cond (b := false) (by simp [alook, aput, ev]) ?_
    refine awp_seq ?_
    refine awp_run rfl (by simp only [fwA, seval, gfw, bx, dx, hk] <;> rfl) ?_
    refine awp_cond (b := false) (by simp [alook, aput, ev]) ?_
    refine awp_seq ?_
    refine awp_run rfl (by simp only [fwA, seval, gfw, bx, dx, hk] <;> rfl) ?_
    refine awp_cond (b := true) (by simp [alook, aput, ev]) ?_
    refine awp_seq ?_
    refine awp_region rfl ?_
    refine aops_run 2 (by simp only [fwA, seval, gfw, bx, dx, Tryz.underlying67, Tm.fw] <;> rfl) ?_
    refine aops_call rfl rfl rfl en35 ((c35 Γ _ _ t 0 k0 (by simp) g0).mono fun q H' hq => ?_)
    obtain ⟨rfl, rfl⟩ := hq
    refine aops_run 3 (by simp only [fwA, seval, gfw, bx, dx, Tryz.underlying67, Tm.fw] <;> rfl) ?_
    refine aops_call rfl rfl rfl en35 ((c35 Γ _ _ t 1 k1 (by simp) g1).mono fun q H' hq => ?_)
    obtain ⟨rfl, rfl⟩ := hq
    refine aops_run 3 (by simp only [fwA, seval, gfw, bx, dx, Tryz.underlying67, Tm.fw] <;> rfl) ?_
    refine aops_call rfl rfl rfl en35 ((c35 Γ _ _ t 2 k2 (by simp) g2).mono fun q H' hq => ?_)
    obtain ⟨rfl, rfl⟩ := hq
    refine aops_run 2 (by simp only [fwA, seval, gfw, bx, dx, Tryz.underlying67, Tm.fw] <;> rfl) ?_
    refine aops_fn rfl rfl rfl en37 h32 ?_
    refine aops_run 1 (by simp only [fwA, seval, gfw, bx, dx, Tryz.underlying67, Tm.fw] <;> rfl) ?_
    refine aops_end ?_
    refine awp_ret ?_
    exact gives_end (.inl rfl) _ rfl
  · -- kind 7
    have hm : t.kids.length = 2 := by rw [hk] at hlen; have h0 : kidsTab.getD (Int.toNat 7) 0 = 2 := rfl; omega
    obtain ⟨k0, k1, e⟩ := len2 hm
    have g0 : t.kids[0]? = some k0 := by rw [e]; rfl
    have g1 : t.kids[1]? = some k1 := by rw [e]; rfl
    have ht : toksT t = laidT [.word [119, 104, 105, 108, 101], .kid k0, .word [100, 111], .kid k1] := by rw [toksT_eq, hk, e]; simp [layT, laidT, Pt.toks]
    have h32 := c32g Γ [.word [119, 104, 105, 108, 101], .kid k0, .word [100, 111], .kid k1] true (fun a ha => h45 a (by simp at ha; rw [e]; simpa using ha)) (by rw [← ht]; omega)
    rw [← ht] at h32
    refine fn_of_awp Tryz.func17 rfl (by simp [Tryz.f17]) rfl fun H => ?_
    refine awp_seq ?_
    refine awp_run rfl (by simp only [fwA, seval, gfw, bx, dx] <;> rfl) ?_
    refine awp_seq ?_
    refine awp_run rfl (by simp only [fwA, seval, gfw, bx, dx] <;> rfl) ?_
    refine awp_seq ?_
    refine awp_run rfl (by simp only [fwA, seval, gfw, bx, dx, Tm.fw] <;> rfl) ?_
    refine awp_seq ?_
    refine awp_seq ?_
    refine awp_run rfl (by simp only [fwA, seval, gfw, bx, dx, Tm.fw, hk] <;> rfl) ?_
    refine awp_block ?_
    refine awp_seq ?_
    refine awp_run rfl (by simp only [fwA, seval, gfw, bx, dx, hk] <;> rfl) ?_
    refine awp_cond (b := false) (by simp [alook, aput, ev]) ?_
    refine awp_seq ?_
    refine awp_run rfl (by simp only [fwA, seval, gfw, bx, dx, hk] <;> rfl) ?_
    refine awp_cond (b := false) (by simp [alook, aput, ev]) ?_
    refine awp_seq ?_
    refine awp_run rfl (by simp only [fwA, seval, gfw, bx, dx, hk] <;> rfl) ?_
    refine awp_cond (b := false) (by simp [alook, aput, ev]) ?_
    refine awp_seq ?_
    refine awp_run rfl (by simp only [fwA, seval, gfw, bx, dx, hk] <;> rfl) ?_
    refine awp_cond (b := false) (by simp [alook, aput, ev]) ?_
    refine awp_seq ?_
    refine awp_run rfl (by simp only [fwA, seval, gfw, bx, dx, hk] <;> rfl) ?_
    refine awp_cond (b := false) (by simp [alook, aput, ev]) ?_
    refine awp_seq ?_
    refine awp_run rfl (by simp only [fwA, seval, gfw, bx, dx, hk] <;> rfl) ?_
    refine awp_cond (b := false) (by simp [alook, aput, ev]) ?_
    refine awp_seq ?_
    refine awp_run rfl (by simp only [fwA, seval, gfw, bx, dx, hk] <;> rfl) ?_
    refine awp_cond (b := true) (by simp [alook, aput, ev]) ?_
    refine awp_seq ?_
    refine awp_region rfl ?_
    refine aops_run 2 (by simp only [fwA, seval, gfw, bx, dx, Tryz.underlying67, Tm.fw] <;> rfl) ?_
    refine aops_call rfl rfl rfl en35 ((c35 Γ _ _ t 0 k0 (by simp) g0).mono fun q H' hq => ?_)
    obtain ⟨rfl, rfl⟩ := hq
    refine aops_run 3 (by simp only [fwA, seval, gfw, bx, dx, Tryz.underlying67, Tm.fw] <;> rfl) ?_
    refine aops_call rfl rfl rfl en35 ((c35 Γ _ _ t 1 k1 (by simp) g1).mono fun q H' hq => ?_)
    obtain ⟨rfl, rfl⟩ := hq
    refine aops_run 2 (by simp only [fwA, seval, gfw, bx, dx, Tryz.underlying67, Tm.fw] <;> rfl) ?_
    refine aops_fn rfl rfl rfl en37 h32 ?_
    refine aops_run 1 (by simp only [fwA, seval, gfw, bx, dx, Tryz.underlying67, Tm.fw] <;> rfl) ?_
    refine aops_end ?_
    refine awp_ret ?_
    exact gives_end (.inl rfl) _ rfl
  · -- kind 8
    have hm : t.kids.length = 1 := by rw [hk] at hlen; have h0 : kidsTab.getD (Int.toNat 8) 0 = 1 := rfl; omega
    obtain ⟨k0, e⟩ := List.length_eq_one_iff.1 hm
    have g0 : t.kids[0]? = some k0 := by rw [e]; rfl
    have ht : toksT t = laidT [.word [114, 97, 105, 115, 101], .kid k0] := by rw [toksT_eq, hk, e]; simp [layT, laidT, Pt.toks]
    have h32 := c32g Γ [.word [114, 97, 105, 115, 101], .kid k0] true (fun a ha => h45 a (by simp at ha; rw [e]; simpa using ha)) (by rw [← ht]; omega)
    rw [← ht] at h32
    refine fn_of_awp Tryz.func17 rfl (by simp [Tryz.f17]) rfl fun H => ?_
    refine awp_seq ?_
    refine awp_run rfl (by simp only [fwA, seval, gfw, bx, dx] <;> rfl) ?_
    refine awp_seq ?_
    refine awp_run rfl (by simp only [fwA, seval, gfw, bx, dx] <;> rfl) ?_
    refine awp_seq ?_
    refine awp_run rfl (by simp only [fwA, seval, gfw, bx, dx, Tm.fw] <;> rfl) ?_
    refine awp_seq ?_
    refine awp_seq ?_
    refine awp_run rfl (by simp only [fwA, seval, gfw, bx, dx, Tm.fw, hk] <;> rfl) ?_
    refine awp_block ?_
    refine awp_seq ?_
    refine awp_run rfl (by simp only [fwA, seval, gfw, bx, dx, hk] <;> rfl) ?_
    refine awp_cond (b := false) (by simp [alook, aput, ev]) ?_
    refine awp_seq ?_
    refine awp_run rfl (by simp only [fwA, seval, gfw, bx, dx, hk] <;> rfl) ?_
    refine awp_cond (b := false) (by simp [alook, aput, ev]) ?_
    refine awp_seq ?_
    refine awp_run rfl (by simp only [fwA, seval, gfw, bx, dx, hk] <;> rfl) ?_
    refine awp_cond (b := false) (by simp [alook, aput, ev]) ?_
    refine awp_seq ?_
    refine awp_run rfl (by simp only [fwA, seval, gfw, bx, dx, hk] <;> rfl) ?_
    refine awp_cond (b := false) (by simp [alook, aput, ev]) ?_
    refine awp_seq ?_
    refine awp_run rfl (by simp only [fwA, seval, gfw, bx, dx, hk] <;> rfl) ?_
    refine awp_cond (b := false) (by simp [alook, aput, ev]) ?_
    refine awp_seq ?_
    refine awp_run rfl (by simp only [fwA, seval, gfw, bx, dx, hk] <;> rfl) ?_
    refine awp_cond (b := false) (by simp [alook, aput, ev]) ?_
    refine awp_seq ?_
    refine awp_run rfl (by simp only [fwA, seval, gfw, bx, dx, hk] <;> rfl) ?_
    refine awp_cond (b := false) (by simp [alook, aput, ev]) ?_
    refine awp_seq ?_
    refine awp_run rfl (by simp only [fwA, seval, gfw, bx, dx, hk] <;> rfl) ?_
    refine awp_cond (b := true) (by simp [alook, aput, ev]) ?_
    refine awp_seq ?_
    refine awp_region rfl ?_
    refine aops_run 2 (by simp only [fwA, seval, gfw, bx, dx, Tryz.underlying67, Tm.fw] <;> rfl) ?_
    refine aops_call rfl rfl rfl en35 ((c35 Γ _ _ t 0 k0 (by simp) g0).mono fun q H' hq => ?_)
    obtain ⟨rfl, rfl⟩ := hq
    refine aops_run 2 (by simp only [fwA, seval, gfw, bx, dx, Tryz.underlying67, Tm.fw] <;> rfl) ?_
    refine aops_fn rfl rfl rfl en37 h32 ?_
    refine aops_run 1 (by simp only [fwA, seval, gfw, bx, dx, Tryz.underlying67, Tm.fw] <;> rfl) ?_
    refine aops_end ?_
    refine awp_ret ?_
    exact gives_end (.inl rfl) _ rfl
  · -- kind 9
    have hm : t.kids.length = 2 := by rw [hk] at hlen; have h0 : kidsTab.getD (Int.toNat 9) 0 = 2 := rfl; omega
    obtain ⟨k0, k1, e⟩ := len2 hm
    have g0 : t.kids[0]? = some k0 := by rw [e]; rfl
    have g1 : t.kids[1]? = some k1 := by rw [e]; rfl
    have ht : toksT t = laidT [.word [116, 114, 121], .kid k0, .word [119, 105, 116, 104], .name t.name, .mark [61, 62], .kid k1] := by rw [toksT_eq, hk, e]; simp [layT, laidT, Pt.toks]
    have h32 := c32g Γ [.word [116, 114, 121], .kid k0, .word [119, 105, 116, 104], .name t.name, .mark [61, 62], .kid k1] true (fun a ha => h45 a (by simp at ha; rw [e]; simpa using ha)) (by rw [← ht]; omega)
    rw [← ht] at h32
    refine fn_of_awp Tryz.func17 rfl (by simp [Tryz.f17]) rfl fun H => ?_
    refine awp_seq ?_
    refine awp_run rfl (by simp only [fwA, seval, gfw, bx, dx] <;> rfl) ?_
    refine awp_seq ?_
    refine awp_run rfl (by simp only [fwA, seval, gfw, bx, dx] <;> rfl) ?_
    refine awp_seq ?_
    refine awp_run rfl (by simp only [fwA, seval, gfw, bx, dx, Tm.fw] <;> rfl) ?_
    refine awp_seq ?_
    refine awp_seq ?_
    refine awp_run rfl (by simp only [fwA, seval, gfw, bx, dx, Tm.fw, hk] <;> rfl) ?_
    refine awp_block ?_
    refine awp_seq ?_
    refine awp_run rfl (by simp only [fwA, seval, gfw, bx, dx, hk] <;> rfl) ?_
    refine awp_cond (b := false) (by simp [alook, aput, ev]) ?_
    refine awp_seq ?_
    refine awp_run rfl (by simp only [fwA, seval, gfw, bx, dx, hk] <;> rfl) ?_
    refine awp_cond (b := false) (by simp [alook, aput, ev]) ?_
    refine awp_seq ?_
    refine awp_run rfl (by simp only [fwA, seval, gfw, bx, dx, hk] <;> rfl) ?_
    refine awp_cond (b := false) (by simp [alook, aput, ev]) ?_
    refine awp_seq ?_
    refine awp_run rfl (by simp only [fwA, seval, gfw, bx, dx, hk] <;> rfl) ?_
    refine awp_cond (b := false) (by simp [alook, aput, ev]) ?_
    refine awp_seq ?_
    refine awp_run rfl (by simp only [fwA, seval, gfw, bx, dx, hk] <;> rfl) ?_
    refine awp_cond (b := false) (by simp [alook, aput, ev]) ?_
    refine awp_seq ?_
    refine awp_run rfl (by simp only [fwA, seval, gfw, bx, dx, hk] <;> rfl) ?_
    refine awp_cond (b := false) (by simp [alook, aput, ev]) ?_
    refine awp_seq ?_
    refine awp_run rfl (by simp only [fwA, seval, gfw, bx, dx, hk] <;> rfl) ?_
    refine awp_cond (b := false) (by simp [alook, aput, ev]) ?_
    refine awp_seq ?_
    refine awp_run rfl (by simp only [fwA, seval, gfw, bx, dx, hk] <;> rfl) ?_
    refine awp_cond (b := false) (by simp [alook, aput, ev]) ?_
    refine awp_seq ?_
    refine awp_run rfl (by simp only [fwA, seval, gfw, bx, dx, hk] <;> rfl) ?_
    refine awp_cond (b := true) (by simp [alook, aput, ev]) ?_
    refine awp_seq ?_
    refine awp_region rfl ?_
    refine aops_run 2 (by simp only [fwA, seval, gfw, bx, dx, Tryz.underlying67, Tm.fw] <;> rfl) ?_
    refine aops_call rfl rfl rfl en35 ((c35 Γ _ _ t 0 k0 (by simp) g0).mono fun q H' hq => ?_)
    obtain ⟨rfl, rfl⟩ := hq
    refine aops_run 6 (by simp only [fwA, seval, gfw, bx, dx, Tryz.underlying67, Tm.fw] <;> rfl) ?_
    refine aops_call rfl rfl rfl en35 ((c35 Γ _ _ t 1 k1 (by simp) g1).mono fun q H' hq => ?_)
    obtain ⟨rfl, rfl⟩ := hq
    refine aops_run 2 (by simp only [fwA, seval, gfw, bx, dx, Tryz.underlying67, Tm.fw] <;> rfl) ?_
    refine aops_fn rfl rfl rfl en37 h32 ?_
    refine aops_run 1 (by simp only [fwA, seval, gfw, bx, dx, Tryz.underlying67, Tm.fw] <;> rfl) ?_
    refine aops_end ?_
    refine awp_ret ?_
    exact gives_end (.inl rfl) _ rfl
  · -- kind 10
    have hm : t.kids.length = 1 := by rw [hk] at hlen; have h0 : kidsTab.getD (Int.toNat 10) 0 = 1 := rfl; omega
    obtain ⟨k0, e⟩ := List.length_eq_one_iff.1 hm
    have g0 : t.kids[0]? = some k0 := by rw [e]; rfl
    have ht : toksT t = laidT [.mark [33], .kid k0] := by rw [toksT_eq, hk, e]; simp [layT, laidT, Pt.toks]
    have h32 := c32g Γ [.mark [33], .kid k0] true (fun a ha => h45 a (by simp at ha; rw [e]; simpa using ha)) (by rw [← ht]; omega)
    rw [← ht] at h32
    refine fn_of_awp Tryz.func17 rfl (by simp [Tryz.f17]) rfl fun H => ?_
    refine awp_seq ?_
    refine awp_run rfl (by simp only [fwA, seval, gfw, bx, dx] <;> rfl) ?_
    refine awp_seq ?_
    refine awp_run rfl (by simp only [fwA, seval, gfw, bx, dx] <;> rfl) ?_
    refine awp_seq ?_
    refine awp_run rfl (by simp only [fwA, seval, gfw, bx, dx, Tm.fw] <;> rfl) ?_
    refine awp_seq ?_
    refine awp_seq ?_
    refine awp_run rfl (by simp only [fwA, seval, gfw, bx, dx, Tm.fw, hk] <;> rfl) ?_
    refine awp_block ?_
    refine awp_seq ?_
    refine awp_run rfl (by simp only [fwA, seval, gfw, bx, dx, hk] <;> rfl) ?_
    refine awp_cond (b := false) (by simp [alook, aput, ev]) ?_
    refine awp_seq ?_
    refine awp_run rfl (by simp only [fwA, seval, gfw, bx, dx, hk] <;> rfl) ?_
    refine awp_cond (b := false) (by simp [alook, aput, ev]) ?_
    refine awp_seq ?_
    refine awp_run rfl (by simp only [fwA, seval, gfw, bx, dx, hk] <;> rfl) ?_
    refine awp_cond (b := false) (by simp [alook, aput, ev]) ?_
    refine awp_seq ?_
    refine awp_run rfl (by simp only [fwA, seval, gfw, bx, dx, hk] <;> rfl) ?_
    refine awp_cond (b := false) (by simp [alook, aput, ev]) ?_
    refine awp_seq ?_
    refine awp_run rfl (by simp only [fwA, seval, gfw, bx, dx, hk] <;> rfl) ?_
    refine awp_cond (b := false) (by simp [alook, aput, ev]) ?_
    refine awp_seq ?_
    refine awp_run rfl (by simp only [fwA, seval, gfw, bx, dx, hk] <;> rfl) ?_
    refine awp_cond (b := false) (by simp [alook, aput, ev]) ?_
    refine awp_seq ?_
    refine awp_run rfl (by simp only [fwA, seval, gfw, bx, dx, hk] <;> rfl) ?_
    refine awp_cond (b := false) (by simp [alook, aput, ev]) ?_
    refine awp_seq ?_
    refine awp_run rfl (by simp only [fwA, seval, gfw, bx, dx, hk] <;> rfl) ?_
    refine awp_cond (b := false) (by simp [alook, aput, ev]) ?_
    refine awp_seq ?_
    refine awp_run rfl (by simp only [fwA, seval, gfw, bx, dx, hk] <;> rfl) ?_
    refine awp_cond (b := false) (by simp [alook, aput, ev]) ?_
    refine awp_seq ?_
    refine awp_run rfl (by simp only [fwA, seval, gfw, bx, dx, hk] <;> rfl) ?_
    refine awp_cond (b := true) (by simp [alook, aput, ev]) ?_
    refine awp_seq ?_
    refine awp_region rfl ?_
    refine aops_run 2 (by simp only [fwA, seval, gfw, bx, dx, Tryz.underlying67, Tm.fw] <;> rfl) ?_
    refine aops_call rfl rfl rfl en35 ((c35 Γ _ _ t 0 k0 (by simp) g0).mono fun q H' hq => ?_)
    obtain ⟨rfl, rfl⟩ := hq
    refine aops_run 2 (by simp only [fwA, seval, gfw, bx, dx, Tryz.underlying67, Tm.fw] <;> rfl) ?_
    refine aops_fn rfl rfl rfl en37 h32 ?_
    refine aops_run 1 (by simp only [fwA, seval, gfw, bx, dx, Tryz.underlying67, Tm.fw] <;> rfl) ?_
    refine aops_end ?_
    refine awp_ret ?_
    exact gives_end (.inl rfl) _ rfl
  · -- kind 11
    have hm : t.kids.length = 2 := by rw [hk] at hlen; have h0 : kidsTab.getD (Int.toNat 11) 0 = 2 := rfl; omega
    obtain ⟨k0, k1, e⟩ := len2 hm
    have g0 : t.kids[0]? = some k0 := by rw [e]; rfl
    have g1 : t.kids[1]? = some k1 := by rw [e]; rfl
    have ht : toksT t = laidT [.kid k0, .mark [58, 61], .kid k1] := by rw [toksT_eq, hk, e]; simp [layT, laidT, Pt.toks]
    have h32 := c32g Γ [.kid k0, .mark [58, 61], .kid k1] true (fun a ha => h45 a (by simp at ha; rw [e]; simpa using ha)) (by rw [← ht]; omega)
    rw [← ht] at h32
    refine fn_of_awp Tryz.func17 rfl (by simp [Tryz.f17]) rfl fun H => ?_
    refine awp_seq ?_
    refine awp_run rfl (by simp only [fwA, seval, gfw, bx, dx] <;> rfl) ?_
    refine awp_seq ?_
    refine awp_run rfl (by simp only [fwA, seval, gfw, bx, dx] <;> rfl) ?_
    refine awp_seq ?_
    refine awp_run rfl (by simp only [fwA, seval, gfw, bx, dx, Tm.fw] <;> rfl) ?_
    refine awp_seq ?_
    refine awp_seq ?_
    refine awp_run rfl (by simp only [fwA, seval, gfw, bx, dx, Tm.fw, hk] <;> rfl) ?_
    refine awp_block ?_
    refine awp_seq ?_
    refine awp_run rfl (by simp only [fwA, seval, gfw, bx, dx, hk] <;> rfl) ?_
    refine awp_cond (b := false) (by simp [alook, aput, ev]) ?_
    refine awp_seq ?_
    refine awp_run rfl (by simp only [fwA, seval, gfw, bx, dx, hk] <;> rfl) ?_
    refine awp_cond (b := false) (by simp [alook, aput, ev]) ?_
    refine awp_seq ?_
    refine awp_run rfl (by simp only [fwA, seval, gfw, bx, dx, hk] <;> rfl) ?_
    refine awp_cond (b := false) (by simp [alook, aput, ev]) ?_
    refine awp_seq ?_
    refine awp_run rfl (by simp only [fwA, seval, gfw, bx, dx, hk] <;> rfl) ?_
    refine awp_cond (b := false) (by simp [alook, aput, ev]) ?_
    refine awp_seq ?_
    refine awp_run rfl (by simp only [fwA, seval, gfw, bx, dx, hk] <;> rfl) ?_
    refine awp_cond (b := false) (by simp [alook, aput, ev]) ?_
    refine awp_seq ?_
    refine awp_run rfl (by simp only [fwA, seval, gfw, bx, dx, hk] <;> rfl) ?_
    refine awp_cond (b := false) (by simp [alook, aput, ev]) ?_
    refine awp_seq ?_
    refine awp_run rfl (by simp only [fwA, seval, gfw, bx, dx, hk] <;> rfl) ?_
    refine awp_cond (b := false) (by simp [alook, aput, ev]) ?_
    refine awp_seq ?_
    refine awp_run rfl (by simp only [fwA, seval, gfw, bx, dx, hk] <;> rfl) ?_
    refine awp_cond (b := false) (by simp [alook, aput, ev]) ?_
    refine awp_seq ?_
    refine awp_run rfl (by simp only [fwA, seval, gfw, bx, dx, hk] <;> rfl) ?_
    refine awp_cond (b := false) (by simp [alook, aput, ev]) ?_
    refine awp_seq ?_
    refine awp_run rfl (by simp only [fwA, seval, gfw, bx, dx, hk] <;> rfl) ?_
    refine awp_cond (b := false) (by simp [alook, aput, ev]) ?_
    refine awp_seq ?_
    refine awp_run rfl (by simp only [fwA, seval, gfw, bx, dx, hk] <;> rfl) ?_
    refine awp_cond (b := true) (by simp [alook, aput, ev]) ?_
    refine awp_seq ?_
    refine awp_region rfl ?_
    refine aops_run 1 (by simp only [fwA, seval, gfw, bx, dx, Tryz.underlying67, Tm.fw] <;> rfl) ?_
    refine aops_call rfl rfl rfl en35 ((c35 Γ _ _ t 0 k0 (by simp) g0).mono fun q H' hq => ?_)
    obtain ⟨rfl, rfl⟩ := hq
    refine aops_run 3 (by simp only [fwA, seval, gfw, bx, dx, Tryz.underlying67, Tm.fw] <;> rfl) ?_
    refine aops_call rfl rfl rfl en35 ((c35 Γ _ _ t 1 k1 (by simp) g1).mono fun q H' hq => ?_)
    obtain ⟨rfl, rfl⟩ := hq
    refine aops_run 2 (by simp only [fwA, seval, gfw, bx, dx, Tryz.underlying67, Tm.fw] <;> rfl) ?_
    refine aops_fn rfl rfl rfl en37 h32 ?_
    refine aops_run 1 (by simp only [fwA, seval, gfw, bx, dx, Tryz.underlying67, Tm.fw] <;> rfl) ?_
    refine aops_end ?_
    refine awp_ret ?_
    exact gives_end (.inl rfl) _ rfl
  · -- kind 12
    have hm : t.kids.length = 2 := by rw [hk] at hlen; have h0 : kidsTab.getD (Int.toNat 12) 0 = 2 := rfl; omega
    obtain ⟨k0, k1, e⟩ := len2 hm
    have g0 : t.kids[0]? = some k0 := by rw [e]; rfl
    have g1 : t.kids[1]? = some k1 := by rw [e]; rfl
    have ht : toksT t = laidT [.kid k0, .mark t.name, .kid k1] := by rw [toksT_eq, hk, e]; simp [layT, laidT, Pt.toks]
    have h32 := c32g Γ [.kid k0, .mark t.name, .kid k1] true (fun a ha => h45 a (by simp at ha; rw [e]; simpa using ha)) (by rw [← ht]; omega)
    rw [← ht] at h32
    refine fn_of_awp Tryz.func17 rfl (by simp [Tryz.f17]) rfl fun H => ?_
    refine awp_seq ?_
    refine awp_run rfl (by simp only [fwA, seval, gfw, bx, dx] <;> rfl) ?_
    refine awp_seq ?_
    refine awp_run rfl (by simp only [fwA, seval, gfw, bx, dx] <;> rfl) ?_
    refine awp_seq ?_
    refine awp_run rfl (by simp only [fwA, seval, gfw, bx, dx, Tm.fw] <;> rfl) ?_
    refine awp_seq ?_
    refine awp_seq ?_
    refine awp_run rfl (by simp only [fwA, seval, gfw, bx, dx, Tm.fw, hk] <;> rfl) ?_
    refine awp_block ?_
    refine awp_seq ?_
    refine awp_run rfl (by simp only [fwA, seval, gfw, bx, dx, hk] <;> rfl) ?_
    refine awp_cond (b := false) (by simp [alook, aput, ev]) ?_
    refine awp_seq ?_
    refine awp_run rfl (by simp only [fwA, seval, gfw, bx, dx, hk] <;> rfl) ?_
    refine awp_cond (b := false) (by simp [alook, aput, ev]) ?_
    refine awp_seq ?_
    refine awp_run rfl (by simp only [fwA, seval, gfw, bx, dx, hk] <;> rfl) ?_
    refine awp_cond (b := false) (by simp [alook, aput, ev]) ?_
    refine awp_seq ?_
    refine awp_run rfl (by simp only [fwA, seval, gfw, bx, dx, hk] <;> rfl) ?_
    refine awp_cond (b := false) (by simp [alook, aput, ev]) ?_
    refine awp_seq ?_
    refine awp_run rfl (by simp only [fwA, seval, gfw, bx, dx, hk] <;> rfl) ?_
    refine awp_cond (b := false) (by simp [alook, aput, ev]) ?_
    refine awp_seq ?_
    refine awp_run rfl (by simp only [fwA, seval, gfw, bx, dx, hk] <;> rfl) ?_
    refine awp_cond (b := false) (by simp [alook, aput, ev]) ?_
    refine awp_seq ?_
    refine awp_run rfl (by simp only [fwA, seval, gfw, bx, dx, hk] <;> rfl) ?_
    refine awp_cond (b := false) (by simp [alook, aput, ev]) ?_
    refine awp_seq ?_
    refine awp_run rfl (by simp only [fwA, seval, gfw, bx, dx, hk] <;> rfl) ?_
    refine awp_cond (b := false) (by simp [alook, aput, ev]) ?_
    refine awp_seq ?_
    refine awp_run rfl (by simp only [fwA, seval, gfw, bx, dx, hk] <;> rfl) ?_
    refine awp_cond (b := false) (by simp [alook, aput, ev]) ?_
    refine awp_seq ?_
    refine awp_run rfl (by simp only [fwA, seval, gfw, bx, dx, hk] <;> rfl) ?_
    refine awp_cond (b := false) (by simp [alook, aput, ev]) ?_
    refine awp_seq ?_
    refine awp_run rfl (by simp only [fwA, seval, gfw, bx, dx, hk] <;> rfl) ?_
    refine awp_cond (b := false) (by simp [alook, aput, ev]) ?_
    refine awp_seq ?_
    refine awp_run rfl (by simp only [fwA, seval, gfw, bx, dx, hk] <;> rfl) ?_
    refine awp_cond (b := true) (by simp [alook, aput, ev]) ?_
    refine awp_seq ?_
    refine awp_drawn [0,1,0,0,1,0,0,1,0,0,0,0] [0, 1, 3, 0, 8, 24, 0, 67, 195, 511, 1023, 2047] mixed rfl (by kernel_rfl) ?_
    refine dops_run 1 (by simp only [fwA, seval, gfw, bx, dx, Tm.fw, Tryz.underlying67] <;> rfl) ?_
    refine dops_lent (p := .agg k0.enc) rfl rfl rfl rfl en35 (c35 Γ _ _ t 0 k0 (by simp) g0) ?_
    refine dops_run 5 (by simp only [fwA, seval, gfw, bx, dx, Tm.fw, Tryz.underlying67] <;> rfl) ?_
    refine dops_lent (p := .agg k1.enc) rfl rfl rfl rfl en35 (c35 Γ _ _ t 1 k1 (by simp) g1) ?_
    refine dops_run 2 (by simp only [fwA, seval, gfw, bx, dx, Tm.fw, Tryz.underlying67] <;> rfl) ?_
    refine dops_fn rfl (by simp only [fwA, seval] <;> rfl) rfl rfl en37 h32 ?_
    refine dops_run 1 (by simp only [fwA, seval, gfw, bx, dx, Tm.fw, Tryz.underlying67] <;> rfl) ?_
    refine dops_end ?_
    refine awp_ret ?_
    exact gives_end (.inl rfl) _ rfl
  · -- kind 13
    have hm : t.kids.length = 2 := by rw [hk] at hlen; have h0 : kidsTab.getD (Int.toNat 13) 0 = 2 := rfl; omega
    obtain ⟨k0, k1, e⟩ := len2 hm
    have g0 : t.kids[0]? = some k0 := by rw [e]; rfl
    have g1 : t.kids[1]? = some k1 := by rw [e]; rfl
    have ht : toksT t = laidT [.kid k0, .mark [59], .kid k1] := by rw [toksT_eq, hk, e]; simp [layT, laidT, Pt.toks]
    have h32 := c32g Γ [.kid k0, .mark [59], .kid k1] true (fun a ha => h45 a (by simp at ha; rw [e]; simpa using ha)) (by rw [← ht]; omega)
    rw [← ht] at h32
    refine fn_of_awp Tryz.func17 rfl (by simp [Tryz.f17]) rfl fun H => ?_
    refine awp_seq ?_
    refine awp_run rfl (by simp only [fwA, seval, gfw, bx, dx] <;> rfl) ?_
    refine awp_seq ?_
    refine awp_run rfl (by simp only [fwA, seval, gfw, bx, dx] <;> rfl) ?_
    refine awp_seq ?_
    refine awp_run rfl (by simp only [fwA, seval, gfw, bx, dx, Tm.fw] <;> rfl) ?_
    refine awp_seq ?_
    refine awp_seq ?_
    refine awp_run rfl (by simp only [fwA, seval, gfw, bx, dx, Tm.fw, hk] <;> rfl) ?_
    refine awp_block ?_
    refine awp_seq ?_
    refine awp_run rfl (by simp only [fwA, seval, gfw, bx, dx, hk] <;> rfl) ?_
    refine awp_cond (b := false) (by simp [alook, aput, ev]) ?_
    refine awp_seq ?_
    refine awp_run rfl (by simp only [fwA, seval, gfw, bx, dx, hk] <;> rfl) ?_
    refine awp_cond (b := false) (by simp [alook, aput, ev]) ?_
    refine awp_seq ?_
    refine awp_run rfl (by simp only [fwA, seval, gfw, bx, dx, hk] <;> rfl) ?_
    refine awp_cond (b := false) (by simp [alook, aput, ev]) ?_
    refine awp_seq ?_
    refine awp_run rfl (by simp only [fwA, seval, gfw, bx, dx, hk] <;> rfl) ?_
    refine awp_cond (b := false) (by simp [alook, aput, ev]) ?_
    refine awp_seq ?_
    refine awp_run rfl (by simp only [fwA, seval, gfw, bx, dx, hk] <;> rfl) ?_
    refine awp_cond (b := false) (by simp [alook, aput, ev]) ?_
    refine awp_seq ?_
    refine awp_run rfl (by simp only [fwA, seval, gfw, bx, dx, hk] <;> rfl) ?_
    refine awp_cond (b := false) (by simp [alook, aput, ev]) ?_
    refine awp_seq ?_
    refine awp_run rfl (by simp only [fwA, seval, gfw, bx, dx, hk] <;> rfl) ?_
    refine awp_cond (b := false) (by simp [alook, aput, ev]) ?_
    refine awp_seq ?_
    refine awp_run rfl (by simp only [fwA, seval, gfw, bx, dx, hk] <;> rfl) ?_
    refine awp_cond (b := false) (by simp [alook, aput, ev]) ?_
    refine awp_seq ?_
    refine awp_run rfl (by simp only [fwA, seval, gfw, bx, dx, hk] <;> rfl) ?_
    refine awp_cond (b := false) (by simp [alook, aput, ev]) ?_
    refine awp_seq ?_
    refine awp_run rfl (by simp only [fwA, seval, gfw, bx, dx, hk] <;> rfl) ?_
    refine awp_cond (b := false) (by simp [alook, aput, ev]) ?_
    refine awp_seq ?_
    refine awp_run rfl (by simp only [fwA, seval, gfw, bx, dx, hk] <;> rfl) ?_
    refine awp_cond (b := false) (by simp [alook, aput, ev]) ?_
    refine awp_seq ?_
    refine awp_run rfl (by simp only [fwA, seval, gfw, bx, dx, hk] <;> rfl) ?_
    refine awp_cond (b := false) (by simp [alook, aput, ev]) (awp_skip ?_)
    refine awp_seq ?_
    refine awp_region rfl ?_
    refine aops_run 1 (by simp only [fwA, seval, gfw, bx, dx, Tryz.underlying67, Tm.fw] <;> rfl) ?_
    refine aops_call rfl rfl rfl en35 ((c35 Γ _ _ t 0 k0 (by simp) g0).mono fun q H' hq => ?_)
    obtain ⟨rfl, rfl⟩ := hq
    refine aops_run 3 (by simp only [fwA, seval, gfw, bx, dx, Tryz.underlying67, Tm.fw] <;> rfl) ?_
    refine aops_call rfl rfl rfl en35 ((c35 Γ _ _ t 1 k1 (by simp) g1).mono fun q H' hq => ?_)
    obtain ⟨rfl, rfl⟩ := hq
    refine aops_run 2 (by simp only [fwA, seval, gfw, bx, dx, Tryz.underlying67, Tm.fw] <;> rfl) ?_
    refine aops_fn rfl rfl rfl en37 h32 ?_
    refine aops_run 1 (by simp only [fwA, seval, gfw, bx, dx, Tryz.underlying67, Tm.fw] <;> rfl) ?_
    refine aops_end ?_
    refine awp_ret ?_
    exact gives_end (.inl rfl) _ rfl
end Go.Proofs.YtddnigahjahkbaaGreatDoor
namespace Go.Proofs.YtddnigahjahkbaaGreatDoor
set_option linter.unusedVariables false
set_option linter.unusedSimpArgs false
set_option maxRecDepth 100000
open Go.RowKit Fw
def mbox (L : List Int) (f : Bool) (a : Nat) : Blk := .box [.vec (L.map B8) f, .int .i64 (a : Int)]
def nb (L : List Int) (a : Nat) : Nat := (L.getD a 0).toNat
def na (L : List Int) (a : Nat) : Nat := if a < L.length then a + 1 else a
def By (L : List Int) : Prop := L.length ≤ 60 ∧ ∀ x ∈ L, 0 ≤ x ∧ x < 256
theorem na_le (L : List Int) {a : Nat} (h : a ≤ L.length) : na L a ≤ L.length := by unfold na; split <;> omega
theorem nb_lt {L : List Int} (h : By L) (a : Nat) : nb L a < 256 := by
  unfold nb
  rw [List.getD_eq_getElem?_getD]
  cases e : L[a]? with
  | none => decide
  | some x => have := h.2 x (List.mem_of_getElem? e); simp only [Option.getD_some]; omega
theorem set_same {H : List Blk} {b : Nat} {B : Blk} (h : H[b]? = some B) : H.set b B = H := by
  obtain ⟨hb, e⟩ := List.getElem?_eq_some_iff.1 h
  rw [← e]; exact List.set_getElem_self hb
theorem c34 (Γ : Nat → PV) (L : List Int) (f : Bool) (hL : By L) (a : Nat) (ha : a ≤ L.length) (H : List Blk) (b : Nat) (hb : H[b]? = some (mbox L f a)) :
    ACalls Tryz.prog Γ 34 [.ptr b 0] H (fun q H' => q = .int .i64 (nb L a : Int) ∧ H' = H.set b (mbox L f (na L a))) := by
  have h60 := hL.1
  have hbl : b < H.length := (List.getElem?_eq_some_iff.1 hb).1
  have hbs : ∀ B, (H.set b B)[b]? = some B := fun B => List.getElem?_set_self hbl
  refine acalls_of_awp Tryz.func34 rfl (by simp [Tryz.f34]) fun hbd => ?_
  unfold mbox at hb
  refine awp_seq ?_
  refine awp_run rfl (by simp only [fwA, seval] <;> rfl) ?_
  refine awp_seq ?_
  refine awp_seq ?_
  by_cases hc : (L.length : Int) ≤ (a : Int)
  · refine awp_drun [0, 0, 0, 1, 0, 0, 0, 1, 0, 0] [0, 1, 3, 7, 0, 16, 48, 112, 240, 511] mixed rfl (by kernel_rfl) (by simp only [fwA, seval, gfw, bx, dx, hb, hc] <;> rfl) ?_
    refine awp_cond (b := true) (by simp [alook, aput, ev]) ?_
    refine awp_seq ?_
    refine awp_run rfl (by simp only [fwA, seval] <;> rfl) ?_
    refine awp_ret ?_
    have e1 : nb L a = 0 := by unfold nb; rw [List.getD_eq_getElem?_getD, List.getElem?_eq_none (by omega)]; rfl
    have e2 : na L a = a := if_neg (by omega)
    exact calls_end0 (fn := Tryz.f34) (R := fun q H' => q = .int .i64 (nb L a : Int) ∧ H' = H.set b (mbox L f (na L a))) (p := .int .i64 0) (.inl rfl) hbd rfl rfl ⟨by rw [e1]; rfl, by rw [e2]; exact (set_same hb).symm⟩
  have hal : a < L.length := by omega
  obtain ⟨z, hz⟩ : ∃ z, L[a]? = some z := ⟨_, List.getElem?_eq_getElem hal⟩
  have hzb := hL.2 z (List.mem_of_getElem? hz)
  have e1 : (nb L a : Int) = z := by unfold nb; rw [List.getD_eq_getElem?_getD, hz]; simp only [Option.getD_some]; omega
  have e2 : na L a = a + 1 := if_pos hal
  have hwi : IntKind.i64.wrap ((a : Int) + 1) = ((a + 1 : Nat) : Int) := wrapS a (by omega)
  have hwz : IntKind.i64.wrap z = z := wrapId ⟨by omega, by omega⟩
  have hws : IntKind.i64.wrap (((a + 1 : Nat) : Int) - 1) = (a : Int) := by rw [wrapId ⟨by omega, by omega⟩]; omega
  refine awp_drun [0, 0, 0, 1, 0, 0, 0, 1, 0, 0] [0, 1, 3, 7, 0, 16, 48, 112, 240, 511] mixed rfl (by kernel_rfl) (by simp only [fwA, seval, gfw, bx, dx, hb, hc] <;> rfl) ?_
  refine awp_cond (b := false) (by simp [alook, aput, ev]) (awp_skip ?_)
  refine awp_seq ?_
  refine awp_run rfl (by simp only [fwA, seval, gfw, bx, dx, hb, hwi, hbs] <;> rfl) ?_
  have hbd2 : ∀ B ∈ H.set b (mbox L f (a + 1)), B.bd (H.set b (mbox L f (a + 1))).length = true := fun B hB => by
    rw [List.length_set]
    rcases List.mem_or_eq_of_mem_set hB with h | h
    · exact hbd B h
    · rw [h]; simp [mbox, Blk.bd, PV.bdL, PV.bd]
  refine awp_seq ?_
  refine awp_drun [0, 0, 0, 1, 0, 0, 0, 1, 0, 0, 1, 0, 0] [0, 1, 3, 7, 0, 16, 48, 112, 240, 511, 1023, 2047, 4095] mixed rfl (by kernel_rfl) (by simp only [fwA, seval, gfw, bx, dx, hbs, hws, hz, hwz] <;> rfl) ?_
  refine awp_ret ?_
  exact calls_at (fn := Tryz.f34) (R := fun q H' => q = .int .i64 (nb L a : Int) ∧ H' = H.set b (mbox L f (na L a))) (p := .int .i64 z) (.inl rfl) hbd2 rfl rfl (by simp) ⟨by rw [e1], by rw [e2]; rfl⟩
end Go.Proofs.YtddnigahjahkbaaGreatDoor
namespace Go.Proofs.YtddnigahjahkbaaGreatDoor
set_option linter.unusedVariables false
set_option linter.unusedSimpArgs false
set_option maxRecDepth 100000
open Go.RowKit Fw
def nm5 : List (List UInt8) := [[120], [121], [122], [99], [102, 49]]
def op5 : List (List UInt8) := [[43], [45], [42], [60], [61]]
def cntT (k : Nat) : Nat := ([0, 0, 0, 1, 2, 2, 3, 2, 1, 2, 1, 2, 2, 2] : List Nat).getD k 0
def kdT (L : List Int) (z : Bool) (a : Nat) : Nat := if z = true ∨ L.length ≤ na L a then 1 + (1 + nb L a % 13) % 2 else 1 + nb L a % 13
def a2T (L : List Int) (a : Nat) : Nat := na L (na L a)
def nmT (L : List Int) (z : Bool) (a : Nat) : List UInt8 :=
  if kdT L z a = 1 then [] else if kdT L z a = 12 then op5.getD (nb L (a2T L a) % 5) [] else if kdT L z a = 2 ∨ kdT L z a = 3 ∨ kdT L z a = 5 ∨ kdT L z a = 9 then nm5.getD (nb L (na L a) % 5) [] else []
def nT (L : List Int) (z : Bool) (a : Nat) : Int := if kdT L z a = 1 then (nb L (a2T L a) : Int) * 8421504 else 0
def a3T (L : List Int) (z : Bool) (a : Nat) : Nat := if kdT L z a = 1 ∨ kdT L z a = 12 then na L (a2T L a) else a2T L a
def kidsG (g : Nat → Tm × Nat) (a : Nat) : Nat → List Tm × Nat
  | 0 => ([], a)
  | n + 1 => ((kidsG g a n).1 ++ [(g (kidsG g a n).2).1], (g (kidsG g a n).2).2)
theorem kidsG_len (g : Nat → Tm × Nat) (a : Nat) : ∀ n, (kidsG g a n).1.length = n
  | 0 => rfl
  | n + 1 => by rw [kidsG, List.length_append, kidsG_len g a n]; rfl
def mkT (L : List Int) : Nat → Nat → Tm × Nat
  | 0, a => (.mk (kdT L true a) (nmT L true a) (nT L true a) [], a3T L true a)
  | d + 1, a => (.mk (kdT L false a) (nmT L false a) (nT L false a) (kidsG (mkT L d) (a3T L false a) (cntT (kdT L false a))).1, (kidsG (mkT L d) (a3T L false a) (cntT (kdT L false a))).2)
theorem kd_true (L : List Int) (a : Nat) : kdT L true a = 1 ∨ kdT L true a = 2 := by unfold kdT; rw [if_pos (.inl rfl)]; omega
theorem kd_rng (L : List Int) (z : Bool) (a : Nat) : 1 ≤ kdT L z a ∧ kdT L z a ≤ 13 := by unfold kdT; split <;> omega
theorem mkT_eq (L : List Int) (d a : Nat) : mkT L d a = (.mk (kdT L (decide (d = 0)) a) (nmT L (decide (d = 0)) a) (nT L (decide (d = 0)) a) (kidsG (mkT L (d - 1)) (a3T L (decide (d = 0)) a) (cntT (kdT L (decide (d = 0)) a))).1, (kidsG (mkT L (d - 1)) (a3T L (decide (d = 0)) a) (cntT (kdT L (decide (d = 0)) a))).2) := by
  cases d with
  | zero =>
    rw [mkT]
    have h := kd_true L a
    have : cntT (kdT L true a) = 0 := by rcases h with h | h <;> rw [h] <;> rfl
    show _ = (Tm.mk (kdT L true a) (nmT L true a) (nT L true a) (kidsG _ _ (cntT (kdT L true a))).1, (kidsG _ (a3T L true a) (cntT (kdT L true a))).2)
    rw [this]; rfl
  | succ d => rw [mkT]; rfl
theorem a2_le (L : List Int) {a : Nat} (h : a ≤ L.length) : a2T L a ≤ L.length := na_le L (na_le L h)
theorem a3_le (L : List Int) (z : Bool) {a : Nat} (h : a ≤ L.length) : a3T L z a ≤ L.length := by
  unfold a3T
  split
  · exact na_le L (a2_le L h)
  · exact a2_le L h
theorem kidsG_le {L : List Int} {g : Nat → Tm × Nat} (hg : ∀ a, a ≤ L.length → (g a).2 ≤ L.length) {a : Nat} (h : a ≤ L.length) : ∀ n, (kidsG g a n).2 ≤ L.length
  | 0 => h
  | n + 1 => hg _ (kidsG_le hg h n)
theorem mkT_le (L : List Int) : ∀ d a, a ≤ L.length → (mkT L d a).2 ≤ L.length
  | 0, a, h => by rw [mkT]; exact a3_le L _ h
  | d + 1, a, h => by rw [mkT]; exact kidsG_le (mkT_le L d) (a3_le L _ h) _
theorem cnt_le (k : Nat) : cntT k ≤ 3 := by
  unfold cntT
  rw [List.getD_eq_getElem?_getD]
  cases h : ([0, 0, 0, 1, 2, 2, 3, 2, 1, 2, 1, 2, 2, 2] : List Nat)[k]? with
  | none => simp
  | some x => exact (by decide : ∀ x ∈ ([0, 0, 0, 1, 2, 2, 3, 2, 1, 2, 1, 2, 2, 2] : List Nat), x ≤ 3) x (List.mem_of_getElem? h)
theorem leaf_le (k n : Int) (s : List UInt8) : PV.leL [.int .i64 k, .str s, .int .i64 n, .vec [] true] (Tm.mk k s n []).enc := by
  rw [show (Tm.mk k s n []).enc = [.int .i64 k, .str s, .int .i64 n, .vec [] false] from Tm.enc_eq _]
  exact ⟨rfl, rfl, rfl, ⟨nofun, trivial⟩, trivial⟩
set_option maxHeartbeats 16000000 in
theorem c16 (Γ : Nat → PV) (L : List Int) (f : Bool) (hL : By L) : ∀ (d : Nat), d ≤ 100 → ∀ (a : Nat), a ≤ L.length → ∀ (H : List Blk) (b : Nat), H[b]? = some (mbox L f a) →
    ACalls Tryz.prog Γ 16 [.ptr b 0, .int .i64 (d : Int)] H (fun q H' => q = .agg (mkT L d a).1.enc ∧ H' = H.set b (mbox L f (mkT L d a).2)) := by
  intro d
  induction d using Nat.strongRecOn with
  | _ d ih =>
  intro hd a ha H b hb
  have hbl : b < H.length := (List.getElem?_eq_some_iff.1 hb).1
  obtain ⟨K, hK⟩ : ∃ K : Nat → List Blk, ∀ x, K x = H.set b (mbox L f x) := ⟨fun x => H.set b (mbox L f x), fun _ => rfl⟩
  have hKl : ∀ x, (K x).length = H.length := fun x => by rw [hK, List.length_set]
  have hKb : ∀ x M, (K x ++ M)[b]? = some (mbox L f x) := fun x M => by rw [List.getElem?_append_left (by rw [hKl]; exact hbl), hK]; exact List.getElem?_set_self hbl
  have hKs : ∀ x y M, (K x ++ M).set b (mbox L f y) = K y ++ M := fun x y M => by rw [List.set_append_left _ _ (by rw [hKl]; exact hbl), hK, hK, List.set_set]
  have hK0 : K a = H := by rw [hK]; exact set_same hb
  have h23 : ∀ x, x ≤ L.length → ∀ M, ACalls Tryz.prog Γ 34 [.ptr b 0] (K x ++ M) (fun q H' => q = .int .i64 (nb L x : Int) ∧ H' = K (na L x) ++ M) := fun x hx M => (c34 Γ L f hL x hx (K x ++ M) b (hKb x M)).mono fun q H' h => ⟨h.1, by rw [h.2, hKs]⟩
  have hna := na_le L ha
  have ha2 := a2_le L ha
  have hkr := kd_rng L (decide (d = 0)) a
  have hn0 := nb_lt hL a
  have hn1 := nb_lt hL (na L a)
  have hn2 := nb_lt hL (a2T L a)
  rw [mkT_eq]
  generalize hkd : kdT L (decide (d = 0)) a = kd at hkr ⊢
  generalize hnm : nmT L (decide (d = 0)) a = nm
  generalize hnn : nT L (decide (d = 0)) a = nn
  generalize ha3 : a3T L (decide (d = 0)) a = a3
  have ha3l : a3 ≤ L.length := ha3 ▸ a3_le L _ ha
  refine acalls_of_awp Tryz.func16 rfl (by simp [Tryz.f16]) fun hbd => ?_
  refine awp_seq ?_
  refine awp_run rfl (by simp only [fwA, seval, gfw, bx, dx] <;> rfl) ?_
  refine awp_heap (H' := K a ++ [Blk.box [.int .i64 0, .str [], .int .i64 0, .vec [] true]]) (by rw [hK0]) ?_
  rw [← hKl a]
  refine awp_seq ?_
  have e1 : (nb L a : Int).tmod 13 = ((nb L a % 13 : Nat) : Int) := rfl
  have e2 : IntKind.i64.wrap (1 + ((nb L a % 13 : Nat) : Int)) = ((1 + nb L a % 13 : Nat) : Int) := by rw [wrapId ⟨by omega, by omega⟩]; omega
  refine awp_region rfl ?_
  refine aops_run 1 (by simp only [fwA, seval, gfw, bx, dx, e1, e2, Int.reduceEq] <;> rfl) ?_
  refine aops_call rfl rfl rfl en34 ((h23 a ha [Blk.box [.int .i64 0, .str [], .int .i64 0, .vec [] true]]).mono fun q H' hq => ?_)
  obtain ⟨rfl, rfl⟩ := hq
  refine aops_run 3 (by simp only [fwA, seval, gfw, bx, dx, e1, e2, Int.reduceEq] <;> rfl) ?_
  refine aops_end ?_
  refine awp_keep (A' := [(0, .ptr b 0), (1, .int .i64 (d : Int)), (4, .ptr H.length 0), (5, .int .i64 ((1 + nb L a % 13 : Nat) : Int))]) [0, 1, 4, 5] (by simp only [fwA, seval, akeep, hKl, List.map_cons, List.map_nil] <;> rfl) ?_
  refine awp_join [0, 1, 4, 5] (fun _ : Unit => [.ptr b 0, .int .i64 (d : Int), .ptr H.length 0, .int .i64 (kd : Int)]) (fun _ => K (na L a) ++ [Blk.box [.int .i64 0, .str [], .int .i64 0, .vec [] true]]) (fun _ => True) ?_ fun _ _ => ?_
  · refine awp_seq ?_
    have hb1 := hKb (na L a) [Blk.box [.int .i64 0, .str [], .int .i64 0, .vec [] true]]
    unfold mbox at hb1
    have e3 : ((1 + nb L a % 13 : Nat) : Int).tmod 2 = (((1 + nb L a % 13) % 2 : Nat) : Int) := rfl
    have e4 : IntKind.i64.wrap (1 + (((1 + nb L a % 13) % 2 : Nat) : Int)) = ((1 + (1 + nb L a % 13) % 2 : Nat) : Int) := by rw [wrapId ⟨by omega, by omega⟩]; omega
    by_cases h0 : (d : Int) ≤ 0
    · refine awp_drun [0, 0, 0, 0, 0, 0, 1, 0, 0, 0, 1, 0, 0, 0] [0, 1, 3, 7, 15, 31, 63, 7, 135, 391, 903, 1927, 4095, 8191] mixed rfl (by kernel_rfl) (by simp only [fwA, seval, gfw, bx, dx, hb1, h0] <;> rfl) ?_
      refine awp_cond (b := true) (by simp [alook, aput, ev]) ?_
      refine awp_run rfl (by simp only [fwA, seval, gfw, bx, dx, e3, e4, Int.reduceEq] <;> rfl) ?_
      have : kd = 1 + (1 + nb L a % 13) % 2 := by rw [← hkd]; unfold kdT; rw [if_pos (.inl (decide_eq_true (by omega)))]
      exact ⟨(), trivial, by simp only [fwA, seval, List.map_cons, List.map_nil, this], rfl, rfl⟩
    · by_cases h1 : (L.length : Int) ≤ (na L a : Int)
      · refine awp_drun [0, 0, 0, 0, 0, 0, 1, 0, 0, 0, 1, 0, 0, 0] [0, 1, 3, 7, 15, 31, 63, 7, 135, 391, 903, 1927, 4095, 8191] mixed rfl (by kernel_rfl) (by simp only [fwA, seval, gfw, bx, dx, hb1, h0, h1] <;> rfl) ?_
        refine awp_cond (b := true) (by simp [alook, aput, ev]) ?_
        refine awp_run rfl (by simp only [fwA, seval, gfw, bx, dx, e3, e4, Int.reduceEq] <;> rfl) ?_
        have : kd = 1 + (1 + nb L a % 13) % 2 := by rw [← hkd]; unfold kdT; rw [if_pos (.inr (by omega))]
        exact ⟨(), trivial, by simp only [fwA, seval, List.map_cons, List.map_nil, this], rfl, rfl⟩
      · refine awp_drun [0, 0, 0, 0, 0, 0, 1, 0, 0, 0, 1, 0, 0, 0] [0, 1, 3, 7, 15, 31, 63, 7, 135, 391, 903, 1927, 4095, 8191] mixed rfl (by kernel_rfl) (by simp only [fwA, seval, gfw, bx, dx, hb1, h0, h1] <;> rfl) ?_
        refine awp_cond (b := false) (by simp [alook, aput, ev]) (awp_skip ?_)
        have : kd = 1 + nb L a % 13 := by rw [← hkd]; unfold kdT; rw [if_neg (fun h => h.elim (fun h => by have := of_decide_eq_true h; omega) (fun h => by omega))]
        exact ⟨(), trivial, by simp only [fwA, seval, List.map_cons, List.map_nil, this], rfl, rfl⟩
  refine awp_seq ?_
  refine awp_run rfl (by simp only [fwA, seval, gfw, bx, dx] <;> rfl) ?_
  refine awp_heap (H' := K (na L a) ++ [Blk.box [.int .i64 0, .str [], .int .i64 0, .vec [] true], .box [.int .i64 (kd : Int), .str [], .int .i64 0, .vec [] true]]) (by simp) ?_
  refine awp_keep (A' := [(0, .ptr b 0), (1, .int .i64 (d : Int)), (4, .ptr H.length 0), (5, .int .i64 (kd : Int)), (6, .ptr (H.length + 1) 0)]) [0, 1, 4, 5, 6] (by simp only [fwA, seval, akeep, hKl, List.map_cons, List.map_nil] <;> rfl) ?_
  refine awp_seq ?_
  have e5 : (nb L (na L a) : Int).tmod 5 = ((nb L (na L a) % 5 : Nat) : Int) := rfl
  obtain ⟨s5, hs5⟩ : ∃ s, nm5[nb L (na L a) % 5]? = some s := ⟨_, List.getElem?_eq_getElem (Nat.mod_lt _ (by decide))⟩
  have hv5 : ([[.str [120]], [.str [121]], [.str [122]], [.str [99]], [.str [102, 49]]] : List (List PV))[nb L (na L a) % 5]? = some [.str s5] := by
    have := congrArg (Option.map S1) hs5
    rwa [← List.getElem?_map] at this
  refine awp_region rfl ?_
  refine aops_run 2 (by simp only [fwA, seval, gfw, bx, dx, e5, hv5, Int.reduceEq] <;> rfl) ?_
  refine aops_call rfl rfl rfl en34 ((h23 (na L a) hna _).mono fun q H' hq => ?_)
  obtain ⟨rfl, rfl⟩ := hq
  refine aops_run 4 (by simp only [fwA, seval, gfw, bx, dx, e5, hv5, Int.reduceEq] <;> rfl) ?_
  refine aops_end ?_
  refine awp_keep (A' := [(0, .ptr b 0), (1, .int .i64 (d : Int)), (4, .ptr H.length 0), (5, .int .i64 (kd : Int)), (6, .ptr (H.length + 1) 0), (7, .str s5)]) [0, 1, 4, 5, 6, 7] (by simp only [fwA, seval, akeep, hKl, List.map_cons, List.map_nil] <;> rfl) ?_
  refine awp_join [0, 1, 4, 5, 6] (fun _ : Unit => [.ptr b 0, .int .i64 (d : Int), .ptr H.length 0, .int .i64 (kd : Int), .ptr (H.length + 1) 0]) (fun _ => K a3 ++ [Blk.box [.int .i64 0, .str [], .int .i64 0, .vec [] true], .box [.int .i64 (kd : Int), .str nm, .int .i64 nn, .vec [] true]]) (fun _ => True) ?_ fun _ _ => ?_
  · refine awp_block ?_
    have hgx : ∀ x C, (K x ++ [Blk.box [.int .i64 0, .str [], .int .i64 0, .vec [] true], .box C])[H.length + 1]? = some (.box C) := fun x C => by rw [← hKl x, Fw.get_at]; rfl
    have hsx : ∀ x C B, (K x ++ [Blk.box [.int .i64 0, .str [], .int .i64 0, .vec [] true], .box C]).set (H.length + 1) B = K x ++ [Blk.box [.int .i64 0, .str [], .int .i64 0, .vec [] true], B] := fun x C B => by rw [← hKl x, Fw.set_at]; rfl
    rw [show na L (na L a) = a2T L a from rfl]
    refine awp_seq ?_
    by_cases h1 : kd = 1
    · have en : nm = [] := by rw [← hnm]; unfold nmT; rw [hkd, if_pos h1]
      have en2 : nn = (nb L (a2T L a) : Int) * 8421504 := by rw [← hnn]; unfold nT; rw [hkd, if_pos h1]
      have ea : a3 = na L (a2T L a) := by rw [← ha3]; unfold a3T; rw [hkd, if_pos (.inl h1)]
      have hk1 : (kd : Int) = 1 := by omega
      have hwm : IntKind.i64.wrap ((nb L (a2T L a) : Int) * 8421504) = (nb L (a2T L a) : Int) * 8421504 := wrapId ⟨by omega, by omega⟩
      refine awp_run rfl (by simp only [fwA, seval, gfw, bx, dx, hk1] <;> rfl) ?_
      refine awp_cond (b := true) (by simp [alook, aput, ev]) ?_
      refine awp_region rfl ?_
      refine aops_run 1 (by simp only [fwA, seval, gfw, bx, dx, hwm, hgx, hsx] <;> rfl) ?_
      refine aops_call rfl rfl rfl en34 ((h23 (a2T L a) ha2 _).mono fun q H' hq => ?_)
      obtain ⟨rfl, rfl⟩ := hq
      refine aops_run 3 (by simp only [fwA, seval, gfw, bx, dx, hwm, hgx, hsx] <;> rfl) ?_
      refine aops_end ?_
      exact ⟨(), trivial, by simp only [fwA, seval, List.map_cons, List.map_nil, hk1], by simp only [ea, en, en2, hk1], rfl⟩
    have hk1 : ¬ (kd : Int) = 1 := by omega
    have en2 : nn = 0 := by rw [← hnn]; unfold nT; rw [hkd, if_neg h1]
    refine awp_run rfl (by simp only [fwA, seval, gfw, bx, dx, hk1] <;> rfl) ?_
    refine awp_cond (b := false) (by simp [alook, aput, ev]) ?_
    refine awp_seq ?_
    by_cases h2 : kd = 12
    · have ea : a3 = na L (a2T L a) := by rw [← ha3]; unfold a3T; rw [hkd, if_pos (.inr h2)]
      have hk2 : (kd : Int) = 12 := by omega
      have e7 : (nb L (a2T L a) : Int).tmod 5 = ((nb L (a2T L a) % 5 : Nat) : Int) := rfl
      obtain ⟨s7, hs7⟩ : ∃ s, op5[nb L (a2T L a) % 5]? = some s := ⟨_, List.getElem?_eq_getElem (Nat.mod_lt _ (by decide))⟩
      have hv7 : ([[.str [43]], [.str [45]], [.str [42]], [.str [60]], [.str [61]]] : List (List PV))[nb L (a2T L a) % 5]? = some [.str s7] := by
        have := congrArg (Option.map S1) hs7
        rwa [← List.getElem?_map] at this
      have en : nm = s7 := by rw [← hnm]; unfold nmT; rw [hkd, if_neg h1, if_pos h2, List.getD_eq_getElem?_getD, hs7]; rfl
      refine awp_run rfl (by simp only [fwA, seval, gfw, bx, dx, hk2, Int.reduceEq] <;> rfl) ?_
      refine awp_cond (b := true) (by simp [alook, aput, ev]) ?_
      refine awp_region rfl ?_
      refine aops_run 2 (by simp only [fwA, seval, gfw, bx, dx, e7, hv7, hgx, hsx, Int.reduceEq] <;> rfl) ?_
      refine aops_call rfl rfl rfl en34 ((h23 (a2T L a) ha2 _).mono fun q H' hq => ?_)
      obtain ⟨rfl, rfl⟩ := hq
      refine aops_run 5 (by simp only [fwA, seval, gfw, bx, dx, e7, hv7, hgx, hsx, Int.reduceEq] <;> rfl) ?_
      refine aops_end ?_
      exact ⟨(), trivial, by simp only [fwA, seval, List.map_cons, List.map_nil, hk2], by simp only [ea, en, en2, hk2], rfl⟩
    have hk2 : ¬ (kd : Int) = 12 := by omega
    have ea : a3 = a2T L a := by rw [← ha3]; unfold a3T; rw [hkd, if_neg (by omega)]
    refine awp_run rfl (by simp only [fwA, seval, gfw, bx, dx, hk2] <;> rfl) ?_
    refine awp_cond (b := false) (by simp [alook, aput, ev]) ?_
    refine awp_seq ?_
    have h24 := (c28 Γ (Tm.mk kd [] 0 [])).args (args := [.agg [.int .i64 (kd : Int), .str [], .int .i64 0, .vec [] true]]) ⟨leaf_le kd 0 [], trivial⟩
    by_cases h3 : kd = 2
    · have hk3 : (kd : Int) = 2 := by omega
      have en : nm = s5 := by rw [← hnm]; unfold nmT; rw [hkd, if_neg h1, if_neg h2, if_pos (.inl h3), List.getD_eq_getElem?_getD, hs5]; rfl
      refine awp_region rfl ?_
      refine aops_run 7 (by simp only [fwA, seval, gfw, bx, dx, hk3] <;> rfl) ?_
      refine aops_end ?_
      refine awp_cond (b := true) (by simp [alook, aput, ev]) ?_
      refine awp_run rfl (by simp only [fwA, seval, gfw, bx, dx, hgx, hsx] <;> rfl) ?_
      exact ⟨(), trivial, by simp only [fwA, seval, List.map_cons, List.map_nil, hk3], by simp only [ea, en, en2, hk3], rfl⟩
    have hk3 : ¬ (kd : Int) = 2 := by omega
    by_cases h4 : kd = 3 ∨ kd = 5 ∨ kd = 9
    · have en : nm = s5 := by rw [← hnm]; unfold nmT; rw [hkd, if_neg h1, if_neg h2, if_pos (.inr h4), List.getD_eq_getElem?_getD, hs5]; rfl
      rw [show (Tm.mk kd [] 0 []).binder = true by unfold Tm.binder Tm.kind; rcases h4 with h | h | h <;> subst h <;> rfl] at h24
      refine awp_region rfl ?_
      refine aops_run 4 (by simp only [fwA, seval, gfw, bx, dx, hk3, hgx] <;> rfl) ?_
      refine aops_fnIf rfl rfl rfl rfl rfl en28 h24 ?_
      refine aops_run 2 (by simp only [fwA, seval, gfw, bx, dx, hk3, hgx] <;> rfl) ?_
      refine aops_end ?_
      refine awp_cond (b := true) (by simp [alook, aput, ev]) ?_
      refine awp_run rfl (by simp only [fwA, seval, gfw, bx, dx, hgx, hsx] <;> rfl) ?_
      exact ⟨(), trivial, by simp only [fwA, seval, List.map_cons, List.map_nil], by simp only [ea, en, en2], rfl⟩
    · have en : nm = [] := by rw [← hnm]; unfold nmT; rw [hkd, if_neg h1, if_neg h2, if_neg (fun h => h.elim h3 h4)]
      rw [show (Tm.mk kd [] 0 []).binder = false by
        unfold Tm.binder Tm.kind
        simp only [Bool.or_eq_false_iff, decide_eq_false_iff_not]
        omega] at h24
      refine awp_region rfl ?_
      refine aops_run 4 (by simp only [fwA, seval, gfw, bx, dx, hk3, hgx] <;> rfl) ?_
      refine aops_fnIf rfl rfl rfl rfl rfl en28 h24 ?_
      refine aops_run 2 (by simp only [fwA, seval, gfw, bx, dx, hk3, hgx] <;> rfl) ?_
      refine aops_end ?_
      refine awp_cond (b := false) (by simp [alook, aput, ev]) (awp_skip ?_)
      exact ⟨(), trivial, by simp only [fwA, seval, List.map_cons, List.map_nil], by simp only [ea, en, en2], rfl⟩
  have hgx : ∀ x C M, (K x ++ (Blk.box [.int .i64 0, .str [], .int .i64 0, .vec [] true] :: .box C :: M))[H.length + 1]? = some (.box C) := fun x C M => by rw [← hKl x, Fw.get_at]; rfl
  have hsx : ∀ x C B M, (K x ++ (Blk.box [.int .i64 0, .str [], .int .i64 0, .vec [] true] :: .box C :: M)).set (H.length + 1) B = K x ++ (Blk.box [.int .i64 0, .str [], .int .i64 0, .vec [] true] :: B :: M) := fun x C B M => by rw [← hKl x, Fw.set_at]; rfl
  have hgr : ∀ x C D, (K x ++ [Blk.box [.int .i64 0, .str [], .int .i64 0, .vec [] true], .box C, .row 4 D])[H.length + 2]? = some (.row 4 D) := fun x C D => by rw [← hKl x, Fw.get_at]; rfl
  have hsr : ∀ x C D B, (K x ++ [Blk.box [.int .i64 0, .str [], .int .i64 0, .vec [] true], .box C, .row 4 D]).set (H.length + 2) B = K x ++ [Blk.box [.int .i64 0, .str [], .int .i64 0, .vec [] true], .box C, B] := fun x C D B => by rw [← hKl x, Fw.set_at]; rfl
  refine awp_seq ?_
  refine awp_seq ?_
  refine awp_run rfl (by simp only [fwA, seval, gfw, bx, dx] <;> rfl) ?_
  refine awp_told (told_adoptBox (H.length + 1) 3 4 (by decide) (hgx _ _ _) rfl) ?_
  generalize hg : mkT L (d - 1) = g
  have hgle : ∀ x, x ≤ L.length → (g x).2 ≤ L.length := fun x hx => hg ▸ mkT_le L (d - 1) x hx
  refine awp_heap (H' := K (kidsG g a3 0).2 ++ [Blk.box [.int .i64 0, .str [], .int .i64 0, .vec [] true], .box [.int .i64 (kd : Int), .str nm, .int .i64 nn, .row (H.length + 2) 0 0 4], .row 4 ((((kidsG g a3 0).1).map Tm.enc).flatten)]) (by rw [hsx]; simp [kidsG, hKl]) ?_
  refine awp_block ?_
  have hcl := cnt_le kd
  refine awp_for [0, 1, 4, 5, 6, 8] (fun i : Nat => [.ptr b 0, .int .i64 (d : Int), .ptr H.length 0, .int .i64 (kd : Int), .ptr (H.length + 1) 0, .int .i64 (i : Int)]) (fun i => K (kidsG g a3 i).2 ++ [Blk.box [.int .i64 0, .str [], .int .i64 0, .vec [] true], .box [.int .i64 (kd : Int), .str nm, .int .i64 nn, .row (H.length + 2) 0 i 4], .row 4 ((((kidsG g a3 i).1).map Tm.enc).flatten)]) (fun i => cntT kd - i) (fun i => i ≤ cntT kd) 0 rfl rfl (Nat.zero_le _) fun i hi => ?_
  have hv : ([[.int .i64 0], [.int .i64 0], [.int .i64 0], [.int .i64 1], [.int .i64 2], [.int .i64 2], [.int .i64 3], [.int .i64 2], [.int .i64 1], [.int .i64 2], [.int .i64 1], [.int .i64 2], [.int .i64 2], [.int .i64 2]] : List (List PV))[kd]? = some [.int .i64 (cntT kd : Int)] := by
    have h : ([0, 0, 0, 1, 2, 2, 3, 2, 1, 2, 1, 2, 2, 2] : List Nat)[kd]? = some (cntT kd) := by
      unfold cntT
      rw [List.getD_eq_getElem?_getD, List.getElem?_eq_getElem (show kd < 14 by omega)]; rfl
    have := congrArg (Option.map fun n : Nat => [PV.int .i64 (n : Int)]) h
    rwa [← List.getElem?_map] at this
  have hwi : IntKind.i64.wrap ((i : Int) + 1) = ((i + 1 : Nat) : Int) := wrapS i (by omega)
  have hlk := kidsG_len g a3 i
  refine awp_seq ?_
  refine awp_seq ?_
  by_cases hc : (i : Int) < (cntT kd : Int)
  rotate_left
  · refine awp_run rfl (by simp only [fwA, seval, gfw, bx, dx, hv, hc] <;> rfl) ?_
    refine awp_cond (b := false) (by simp [alook, aput, ev]) ?_
    refine awp_exit ?_
    have hie : i = cntT kd := by omega
    subst hie
    have hfl : (((kidsG g a3 (cntT kd)).1.map Tm.enc).flatten).length = cntT kd * 4 := by rw [flat_len Tm.enc_len, hlk]
    have hch : chunk 4 (cntT kd) (((kidsG g a3 (cntT kd)).1.map Tm.enc).flatten) = (kidsG g a3 (cntT kd)).1.map Tm.enc := by
      have := flat_chunk Tm.enc_len (kidsG g a3 (cntT kd)).1
      rwa [hlk] at this
    refine awp_told (told_freezeAt (K _) _ 2 (C := ((kidsG g a3 (cntT kd)).1.map Tm.enc).flatten) rfl (flat_bd (fun t => by simp only [Tm.fw]) _)) ?_
    have hkz : K (kidsG g a3 (cntT kd)).2 = H.set b (mbox L f (kidsG g a3 (cntT kd)).2) := hK _
    have hkl := hKl (kidsG g a3 (cntT kd)).2
    have hgz : ∀ C M, (K (kidsG g a3 (cntT kd)).2 ++ (.box C :: M))[H.length]? = some (.box C) := fun C M => by rw [← hkl, get_at0]; rfl
    refine awp_seq ?_
    refine awp_run rfl (by simp only [fwA, seval, gfw, bx, dx, hkl, hfl, hch, hgx, hgz] <;> rfl) ?_
    have hsz : ∀ C M B, (K (kidsG g a3 (cntT kd)).2 ++ (C :: M)).set H.length B = K (kidsG g a3 (cntT kd)).2 ++ (B :: M) := fun C M B => by rw [← hkl, set_at0]; rfl
    refine awp_heap (hsz _ _ _) ?_
    refine awp_ret ?_
    refine calls_cut (fn := Tryz.f16) (p := .agg (Tm.mk (kd : Int) nm nn (kidsG g a3 (cntT kd)).1).enc) (K (kidsG g a3 (cntT kd)).2) _ (.inl rfl) (fun B hB => ?_) ?_ (by simp [PV.bd, Tm.fw]) (by rw [hKl, hKl]; exact Nat.le_refl _) ⟨rfl, hkz⟩
    · rw [hKl]
      rw [hkz] at hB
      rcases List.mem_or_eq_of_mem_set hB with h | h
      · exact hbd B h
      · rw [h]; simp [mbox, Blk.bd, PV.bdL, PV.bd]
    · rw [show (Tm.mk (kd : Int) nm nn (kidsG g a3 (cntT kd)).1).enc = [.int .i64 kd, .str nm, .int .i64 nn, .vec ((kidsG g a3 (cntT kd)).1.map Tm.enc) false] from Tm.enc_eq _]
      simp only [fwA, seval, gfw, bx, ares, aresL, ares1, Tryz.f16, hgz]
  have hd1 : 1 ≤ d := by
    rcases Nat.eq_zero_or_pos d with h | h
    · subst h
      have h2 := kd_true L a
      rw [show (decide (0 = 0)) = true from rfl] at hkd
      rw [hkd] at h2
      have : cntT kd = 0 := by rcases h2 with h | h <;> rw [h] <;> rfl
      omega
    · exact h
  have hwd : IntKind.i64.wrap ((d : Int) - 1) = ((d - 1 : Nat) : Int) := by rw [wrapId ⟨by omega, by omega⟩]; omega
  refine awp_run rfl (by simp only [fwA, seval, gfw, bx, dx, hv, hc] <;> rfl) ?_
  refine awp_cond (b := true) (by simp [alook, aput, ev]) ?_
  refine awp_skip ?_
  refine awp_seq ?_
  refine awp_block ?_
  have hal : (kidsG g a3 i).2 ≤ L.length := kidsG_le hgle ha3l i
  have hih := ih (d - 1) (by omega) (by omega) (kidsG g a3 i).2 hal
  rw [hg] at hih
  have hks : kidsG g a3 (i + 1) = ((kidsG g a3 i).1 ++ [(g (kidsG g a3 i).2).1], (g (kidsG g a3 i).2).2) := rfl
  generalize kidsG g a3 i = r at hih hlk hal hks ⊢
  obtain ⟨ks, ax⟩ := r
  simp only at hih hlk hal hks ⊢
  generalize hgt : g ax = gt at hih hks ⊢
  obtain ⟨tk, ay⟩ := gt
  simp only at hih hks ⊢
  have gvw : ((K ax ++ [Blk.box [.int .i64 0, .str [], .int .i64 0, .vec [] true], .box [.int .i64 (kd : Int), .str nm, .int .i64 nn, .row (H.length + 2) 0 i 4], .row 4 ((ks.map Tm.enc).flatten)]).set b .dead)[H.length + 1]? = some (.box [.int .i64 (kd : Int), .str nm, .int .i64 nn, .row (H.length + 2) 0 i 4]) := by
    rw [List.getElem?_set_ne (by omega)]; exact hgx _ _ _
  refine awp_drawnX (some b) [0, 4, 0, 0, 0, 5, 0, 2, 0, 2] [0, 1, 0, 0, 8, 28, 60, 127, 255, 511] mixed rfl (by kernel_rfl) ?_
  refine dops_run 5 (by simp only [fwA, seval, gfw, bx, dx, gvw, hgx, hwd] <;> rfl) ?_
  refine dops_turn (p := .agg tk.enc) (B := mbox L f ay) rfl rfl rfl rfl en16 rfl (by simp [hKl]; omega) (by simp [hKl]; omega) (fun H2 h1 h2 => hih H2 b (h2.trans (hKb _ _))) ?_
  rw [hKs]
  refine dops_run 1 (by simp only [fwA, seval, gfw, bx, dx, Tm.fw] <;> rfl) ?_
  refine dops_push (enc := Tm.enc) (l := ks) (z := tk) Tm.enc_len rfl rfl rfl un22 ti24 rfl un22 rfl (hgr _ _ _) hlk.symm rfl (by show (i + 1) * 56 ≤ _; omega) (by omega) (hsr _ _ _ _) ?_
  refine dops_run 2 (by simp only [fwA, seval, gfw, bx, dx, hgx, hsx] <;> rfl) ?_
  refine dops_end ?_
  refine awp_run rfl (by simp only [fwA, seval, gfw, bx, dx] <;> rfl) ?_
  exact ⟨i + 1, by omega, by omega, by simp only [fwA, seval, List.map_cons, List.map_nil, hwi], by simp only [hks], rfl⟩
end Go.Proofs.YtddnigahjahkbaaGreatDoor
namespace Go.Proofs.YtddnigahjahkbaaGreatDoor
set_option linter.unusedVariables false
set_option linter.unusedSimpArgs false
set_option maxRecDepth 100000
open Go.RowKit Fw
def TkForm (x : Tk) : Prop := (x.kind = 1 ∧ x.n = 0 ∧ wordP x.text) ∨ (x.kind = 2 ∧ 0 ≤ x.n ∧ x.n < 2147483648 ∧ x.text = Lib.itoa x.n) ∨ (x.kind = 3 ∧ x.n = 0 ∧ x.text ∈ kws) ∨ (x.kind = 4 ∧ x.n = 0 ∧ x.text ∈ mks)
theorem getD_mem {X : Type} {W : List (List X)} {i : Nat} {x : X} (h : x ∈ W.getD i []) : ∃ w ∈ W, x ∈ w := by
  rw [List.getD_eq_getElem?_getD] at h
  cases e : W[i]? with
  | none => rw [e] at h; simp at h
  | some w => rw [e] at h; exact ⟨w, List.mem_of_getElem? e, h⟩
theorem mem_lay {k : Int} {s : List UInt8} {n : Int} {W : List (List Tk)} {x : Tk} (h : x ∈ layT k s n W) :
    (k = 1 ∧ x = ⟨2, Lib.itoa n, n⟩) ∨ ((k = 2 ∨ k = 3 ∨ k = 5 ∨ k = 9) ∧ x = ⟨1, s, 0⟩) ∨ (x.kind = 3 ∧ x.n = 0 ∧ x.text ∈ kws) ∨ (x.kind = 4 ∧ x.n = 0 ∧ x.text ∈ mks) ∨ (k = 12 ∧ x = ⟨4, s, 0⟩) ∨ ∃ w ∈ W, x ∈ w := by
  have h0 : x ∈ W.getD 0 [] → ∃ w ∈ W, x ∈ w := getD_mem
  have h1 : x ∈ W.getD 1 [] → ∃ w ∈ W, x ∈ w := getD_mem
  have h2 : x ∈ W.getD 2 [] → ∃ w ∈ W, x ∈ w := getD_mem
  unfold layT at h
  simp only at h
  generalize W.getD 0 [] = k0 at h h0
  generalize W.getD 1 [] = k1 at h h1
  generalize W.getD 2 [] = k2 at h h2
  generalize (∃ w ∈ W, x ∈ w) = Q at h0 h1 h2 ⊢
  have key : ∀ (a : List UInt8), a ∈ kws → x = ⟨3, a, 0⟩ → (x.kind = 3 ∧ x.n = 0 ∧ x.text ∈ kws) := fun a ha e => by subst e; exact ⟨rfl, rfl, ha⟩
  have mk : ∀ (a : List UInt8), a ∈ mks → x = ⟨4, a, 0⟩ → (x.kind = 4 ∧ x.n = 0 ∧ x.text ∈ mks) := fun a ha e => by subst e; exact ⟨rfl, rfl, ha⟩
  have a1 := key [102, 117, 110] (by decide)
  have a2 := key [108, 101, 116] (by decide)
  have a3 := key [105, 110] (by decide)
  have a4 := key [105, 102] (by decide)
  have a5 := key [116, 104, 101, 110] (by decide)
  have a6 := key [101, 108, 115, 101] (by decide)
  have a7 := key [119, 104, 105, 108, 101] (by decide)
  have a8 := key [100, 111] (by decide)
  have a9 := key [114, 97, 105, 115, 101] (by decide)
  have a10 := key [116, 114, 121] (by decide)
  have a11 := key [119, 105, 116, 104] (by decide)
  have b1 := mk [61, 62] (by decide)
  have b2 := mk [61] (by decide)
  have b3 := mk [33] (by decide)
  have b4 := mk [58, 61] (by decide)
  have b5 := mk [59] (by decide)
  clear key mk
  generalize (x.kind = 3 ∧ x.n = 0 ∧ x.text ∈ kws) = Q3 at *
  generalize (x.kind = 4 ∧ x.n = 0 ∧ x.text ∈ mks) = Q4 at *
  by_cases c1 : k = 1
  · rw [if_pos c1] at h
    exact .inl ⟨c1, by simpa using h⟩
  rw [if_neg c1] at h
  by_cases c2 : k = 2
  · rw [if_pos c2] at h
    exact .inr (.inl ⟨.inl c2, by simpa using h⟩)
  rw [if_neg c2] at h
  by_cases c3 : k = 3
  · rw [if_pos c3] at h
    simp only [List.mem_append, List.mem_cons, List.not_mem_nil, or_false] at h
    grind
  rw [if_neg c3] at h
  by_cases c4 : k = 4
  · rw [if_pos c4] at h
    simp only [List.mem_append, List.mem_cons, List.not_mem_nil, or_false] at h
    grind
  rw [if_neg c4] at h
  by_cases c5 : k = 5
  · rw [if_pos c5] at h
    simp only [List.mem_append, List.mem_cons, List.not_mem_nil, or_false] at h
    grind
  rw [if_neg c5] at h
  by_cases c6 : k = 6
  · rw [if_pos c6] at h
    simp only [List.mem_append, List.mem_cons, List.not_mem_nil, or_false] at h
    grind
  rw [if_neg c6] at h
  by_cases c7 : k = 7
  · rw [if_pos c7] at h
    simp only [List.mem_append, List.mem_cons, List.not_mem_nil, or_false] at h
    grind
  rw [if_neg c7] at h
  by_cases c8 : k = 8
  · rw [if_pos c8] at h
    simp only [List.mem_append, List.mem_cons, List.not_mem_nil, or_false] at h
    grind
  rw [if_neg c8] at h
  by_cases c9 : k = 9
  · rw [if_pos c9] at h
    simp only [List.mem_append, List.mem_cons, List.not_mem_nil, or_false] at h
    grind
  rw [if_neg c9] at h
  by_cases c10 : k = 10
  · rw [if_pos c10] at h
    simp only [List.mem_append, List.mem_cons, List.not_mem_nil, or_false] at h
    grind
  rw [if_neg c10] at h
  by_cases c11 : k = 11
  · rw [if_pos c11] at h
    simp only [List.mem_append, List.mem_cons, List.not_mem_nil, or_false] at h
    grind
  rw [if_neg c11] at h
  by_cases c12 : k = 12
  · rw [if_pos c12] at h
    simp only [List.mem_append, List.mem_cons, List.not_mem_nil, or_false] at h
    grind
  rw [if_neg c12] at h
  simp only [List.mem_append, List.mem_cons, List.not_mem_nil, or_false] at h
  grind
theorem name_len {s : List UInt8} (h : wordP s) : s.length ≤ 16 := h.1.2.1
theorem TkForm.len {x : Tk} (h : TkForm x) : x.text.length ≤ 21 := by
  rcases h with ⟨_, _, h⟩ | ⟨_, h1, h2, h⟩ | ⟨_, _, h⟩ | ⟨_, _, h⟩
  · have := name_len h; omega
  · rw [h]; exact itoa_room ⟨by omega, by omega⟩
  · exact (by decide : ∀ s ∈ kws, s.length ≤ 21) _ h
  · exact (by decide : ∀ s ∈ mks, s.length ≤ 21) _ h
theorem ops_mks : ∀ s ∈ opNs, s ∈ mks := by decide
theorem toks_form : ∀ t : Tm, Nodes t → ∀ x ∈ toksT t, TkForm x := by
  refine Tm.ind fun t ih hN x hx => ?_
  obtain ⟨⟨hk1, hk2⟩, hlen, hn1, hn2, hn3, hnm⟩ := hN.node
  unfold nmOk at hnm
  rw [toksT_eq] at hx
  rcases mem_lay hx with ⟨h1, rfl⟩ | ⟨h1, rfl⟩ | h1 | h1 | ⟨h1, rfl⟩ | ⟨w, hw, hx⟩
  · exact .inr (.inl ⟨rfl, hn2, hn3, rfl⟩)
  · refine .inl ⟨rfl, rfl, ?_⟩
    rw [if_neg (by omega), if_pos] at hnm
    · exact hnm
    · unfold Tm.binder
      rcases h1 with h | h | h | h
      · exact .inl h
      all_goals (right; rw [h]; rfl)
  · exact .inr (.inr (.inl h1))
  · exact .inr (.inr (.inr h1))
  · rw [if_pos h1] at hnm
    exact .inr (.inr (.inr ⟨rfl, rfl, ops_mks _ hnm⟩))
  · obtain ⟨k, hk, rfl⟩ := List.mem_map.1 hw
    unfold withinT at hx
    split at hx
    · exact ih k hk (hN.kids k hk) x hx
    · rw [List.mem_append, List.mem_cons, List.mem_singleton] at hx
      rcases hx with (rfl | hx) | rfl
      · exact .inr (.inr (.inr ⟨rfl, rfl, by decide⟩))
      · exact ih k hk (hN.kids k hk) x hx
      · exact .inr (.inr (.inr ⟨rfl, rfl, by decide⟩))
end Go.Proofs.YtddnigahjahkbaaGreatDoor
namespace Go.Proofs.YtddnigahjahkbaaGreatDoor
set_option linter.unusedVariables false
set_option linter.unusedSimpArgs false
set_option maxRecDepth 100000
open Go.RowKit Fw
theorem take_mapY {X Y : Type} (f : X → Y) (l : List X) (n : Nat) : ((l.map f).drop 0).take (n - 0) = (l.take n).map f := by rw [List.drop_zero, Nat.sub_zero, List.map_take]
theorem min60 (n : Nat) : (if (60 : Int) < (n : Int) then 60 else (n : Int)) = ((min n 60 : Nat) : Int) := by split <;> omega
def madeB (l : List Int) : List Int := l.take (min l.length 60)
def madeT (l : List Int) : Tm := (mkT (madeB l) 6 0).1
theorem made_by {l : List Int} (h : ∀ x ∈ l, 0 ≤ x ∧ x < 256) : By (madeB l) := ⟨by unfold madeB; rw [List.length_take]; omega, fun x hx => h x (List.mem_of_mem_take hx)⟩
theorem c6 (Γ : Nat → PV) (l : List Int) (h : ∀ x ∈ l, 0 ≤ x ∧ x < 256) : Gives Tryz.prog Γ 6 [.vec (l.map B8) false] (.agg (madeT l).enc) := by
  have hby := made_by h
  refine fn_of_awp Tryz.func6 rfl (by simp [Tryz.f6]) rfl fun H => ?_
  refine awp_vlen 0 rfl fun hl => ?_
  rw [List.length_map] at hl
  refine awp_seq ?_
  refine awp_run rfl (by simp only [fwA, seval, gfw, bx, dx] <;> rfl) ?_
  refine awp_seq ?_
  refine awp_region rfl ?_
  refine aops_run 3 (by simp only [fwA, seval, gfw, bx, dx] <;> rfl) ?_
  refine aops_one rfl (os_min rfl rfl rfl ?_)
  refine aops_one rfl (os_sliceVec (l := 0) (h := min l.length 60) (es := l.map B8) (f := false) rfl el25 rfl (fun e he => by obtain ⟨x, _, rfl⟩ := List.mem_map.1 he; rfl) rfl ⟨_, congrArg (PV.int .i64) (min60 l.length)⟩ trivial (Nat.zero_le _) (by rw [List.length_map]; omega) ?_)
  rw [take_mapY]
  refine aops_run 3 (by simp only [fwA, seval, gfw, bx, dx] <;> rfl) ?_
  refine aops_end ?_
  refine awp_seq ?_
  have h15 := c16 Γ (madeB l) false hby 6 (by decide) 0 (Nat.zero_le _) (H ++ [.box [.int .i64 0, .str [], .int .i64 0, .vec [] true], mbox (madeB l) false 0]) (H.length + 1) (by rw [Fw.get_at]; rfl)
  refine awp_region rfl ?_
  refine aops_run 1 (by simp only [fwA, seval, gfw, bx, dx, Tm.fw, Fw.set_at] <;> rfl) ?_
  refine aops_call rfl rfl rfl en16 (h15.mono fun q H' hq => ?_)
  obtain ⟨rfl, rfl⟩ := hq
  refine aops_run 1 (by simp only [fwA, seval, gfw, bx, dx, Tm.fw, Fw.set_at] <;> rfl) ?_
  refine aops_end ?_
  refine awp_ret ?_
  refine gives_end (.inl rfl) _ ?_
  simp only [fwA, seval, gfw, bx, ares, aresL, ares1, Tryz.f6, Tm.fw]
  rfl
noncomputable def toksV (t : Tm) : List Tk := if RightT t then toksT t else []
noncomputable def showV (t : Tm) : List UInt8 := if RightT t then printT (toksT t) else [63]
theorem c8 (Γ : Nat → PV) (hΓ : Tab Γ) (t : Tm) (hw : t.w ≤ 4611686018427387904) : Gives Tryz.prog Γ 8 [.agg t.enc] (.vec ((toksV t).map Tk.enc) false) := by
  have h16 := c13 Γ hΓ t hw
  by_cases h : RightT t
  · have h18 := c17 Γ hΓ t h.2.2 (by have := h.2.1; omega)
    rw [decide_eq_true h] at h16
    rw [show toksV t = toksT t from if_pos h]
    refine fn_of_awp Tryz.func8 rfl (by simp [Tryz.f8]) rfl fun H => ?_
    refine awp_seq ?_
    refine awp_run rfl (by simp only [fwA, seval, gfw, bx, dx] <;> rfl) ?_
    refine awp_seq ?_
    refine awp_seq ?_
    refine awp_region rfl ?_
    refine aops_run 1 (by simp only [fwA, seval, gfw, bx, dx, Tm.fw] <;> rfl) ?_
    refine aops_fn rfl rfl rfl en13 h16 ?_
    refine aops_run 1 (by simp only [fwA, seval, gfw, bx, dx, Tm.fw] <;> rfl) ?_
    refine aops_end ?_
    refine awp_cond (b := false) (by simp [alook, aput, ev]) (awp_skip ?_)
    refine awp_seq ?_
    refine awp_region rfl ?_
    refine aops_run 1 (by simp only [fwA, seval, gfw, bx, dx, Tm.fw] <;> rfl) ?_
    refine aops_fn rfl rfl rfl en17 h18 ?_
    refine aops_run 1 (by simp only [fwA, seval, gfw, bx, dx, Tm.fw] <;> rfl) ?_
    refine aops_end ?_
    refine awp_ret ?_
    exact gives_end (.inl rfl) _ rfl
  · rw [decide_eq_false h] at h16
    rw [show toksV t = [] from if_neg h]
    refine Gives.res (p := .vec [] true) ?_ ⟨nofun, trivial⟩
    refine fn_of_awp Tryz.func8 rfl (by simp [Tryz.f8]) rfl fun H => ?_
    refine awp_seq ?_
    refine awp_run rfl (by simp only [fwA, seval, gfw, bx, dx] <;> rfl) ?_
    refine awp_seq ?_
    refine awp_seq ?_
    refine awp_region rfl ?_
    refine aops_run 1 (by simp only [fwA, seval, gfw, bx, dx, Tm.fw] <;> rfl) ?_
    refine aops_fn rfl rfl rfl en13 h16 ?_
    refine aops_run 1 (by simp only [fwA, seval, gfw, bx, dx, Tm.fw] <;> rfl) ?_
    refine aops_end ?_
    refine awp_cond (b := true) (by simp [alook, aput, ev]) ?_
    refine awp_seq ?_
    refine awp_run rfl (by simp only [fwA, seval, gfw, bx, dx] <;> rfl) ?_
    refine awp_ret ?_
    exact gives_end (.inl rfl) _ rfl
theorem c11 (Γ : Nat → PV) (hΓ : Tab Γ) (t : Tm) (hw : t.w ≤ 4611686018427387904) : Gives Tryz.prog Γ 11 [.agg t.enc] (.str (showV t)) := by
  have h16 := c13 Γ hΓ t hw
  by_cases h : RightT t
  · have h18 := c17 Γ hΓ t h.2.2 (by have := h.2.1; omega)
    have hl := toks_len t
    have h17 := c20 Γ (toksT t) false (by have := h.2.1; omega) (fun x hx => by have := (toks_form t h.2.2 x hx).len; omega)
    rw [decide_eq_true h] at h16
    rw [show showV t = printT (toksT t) from if_pos h]
    refine fn_of_awp Tryz.func11 rfl (by simp [Tryz.f11]) rfl fun H => ?_
    refine awp_seq ?_
    refine awp_run rfl (by simp only [fwA, seval, gfw, bx, dx] <;> rfl) ?_
    refine awp_seq ?_
    refine awp_seq ?_
    refine awp_region rfl ?_
    refine aops_run 1 (by simp only [fwA, seval, gfw, bx, dx, Tm.fw] <;> rfl) ?_
    refine aops_fn rfl rfl rfl en13 h16 ?_
    refine aops_run 1 (by simp only [fwA, seval, gfw, bx, dx, Tm.fw] <;> rfl) ?_
    refine aops_end ?_
    refine awp_cond (b := false) (by simp [alook, aput, ev]) (awp_skip ?_)
    refine awp_seq ?_
    refine awp_region rfl ?_
    refine aops_run 1 (by simp only [fwA, seval, gfw, bx, dx, Tm.fw] <;> rfl) ?_
    refine aops_fn rfl rfl rfl en17 h18 ?_
    refine aops_fn rfl rfl rfl en20 h17 ?_
    refine aops_run 1 (by simp only [fwA, seval, gfw, bx, dx, Tm.fw] <;> rfl) ?_
    refine aops_end ?_
    refine awp_ret ?_
    exact gives_end (.inl rfl) _ rfl
  · rw [decide_eq_false h] at h16
    rw [show showV t = [63] from if_neg h]
    refine fn_of_awp Tryz.func11 rfl (by simp [Tryz.f11]) rfl fun H => ?_
    refine awp_seq ?_
    refine awp_run rfl (by simp only [fwA, seval, gfw, bx, dx] <;> rfl) ?_
    refine awp_seq ?_
    refine awp_seq ?_
    refine awp_region rfl ?_
    refine aops_run 1 (by simp only [fwA, seval, gfw, bx, dx, Tm.fw] <;> rfl) ?_
    refine aops_fn rfl rfl rfl en13 h16 ?_
    refine aops_run 1 (by simp only [fwA, seval, gfw, bx, dx, Tm.fw] <;> rfl) ?_
    refine aops_end ?_
    refine awp_cond (b := true) (by simp [alook, aput, ev]) ?_
    refine awp_seq ?_
    refine awp_run rfl (by simp only [fwA, seval, gfw, bx, dx] <;> rfl) ?_
    refine awp_ret ?_
    exact gives_end (.inl rfl) _ rfl
end Go.Proofs.YtddnigahjahkbaaGreatDoor
namespace Go.Proofs.YtddnigahjahkbaaGreatDoor
set_option linter.unusedVariables false
set_option linter.unusedSimpArgs false
set_option maxRecDepth 100000
open Go.RowKit Fw
def nameB (s : List UInt8) : Bool := decide (1 ≤ s.length) && decide (s.length ≤ 16) && (List.range s.length).all fun j => nmAt j (s.getD j 0)
theorem nameB_iff {s : List UInt8} : nameB s = true ↔ nameP s := by
  unfold nameB nameP nmPre
  rw [Bool.and_eq_true, Bool.and_eq_true, decide_eq_true_eq, decide_eq_true_eq, List.all_eq_true, and_assoc]
  refine and_congr Iff.rfl (and_congr Iff.rfl ⟨fun h j hj c hc => ?_, fun h j hj => ?_⟩)
  · have := h j (List.mem_range.2 hj)
    rwa [List.getD_eq_getElem?_getD, hc] at this
  · have hj' := List.mem_range.1 hj
    rw [List.getD_eq_getElem?_getD, List.getElem?_eq_getElem hj']
    exact h j hj' _ (List.getElem?_eq_getElem hj')
def wordB (s : List UInt8) : Bool := nameB s && !decide (s ∈ kws)
theorem wordB_iff {s : List UInt8} : wordB s = true ↔ wordP s := by
  unfold wordB wordP
  rw [Bool.and_eq_true, nameB_iff, Bool.not_eq_true', decide_eq_false_iff_not]
def nmB (t : Tm) : Bool := if t.kind = 12 then decide (t.name ∈ opNs) else if t.kind = 2 ∨ t.binder = true then wordB t.name else decide (t.name = [])
theorem nmB_iff {t : Tm} : nmB t = true ↔ nmOk t := by
  unfold nmB nmOk
  split
  · rw [decide_eq_true_eq]
  · split
    · exact wordB_iff
    · rw [decide_eq_true_eq]
def nodeB (t : Tm) : Bool := (decide (1 ≤ t.kind) && decide (t.kind < 14)) && (decide ((t.kids.length : Int) = kidsTab.getD t.kind.toNat 0) && ((decide (t.kind = 1) || decide (t.n = 0)) && (decide (0 ≤ t.n) && (decide (t.n < 2147483648) && nmB t))))
theorem nodeB_iff {t : Tm} : nodeB t = true ↔ nodeP t := by
  unfold nodeB nodeP
  simp only [Bool.and_eq_true, Bool.or_eq_true, decide_eq_true_eq, nmB_iff]
  refine and_congr Iff.rfl (and_congr Iff.rfl (and_congr ⟨fun h a => h.resolve_left a, fun h => ?_⟩ Iff.rfl))
  by_cases e : t.kind = 1
  · exact .inl e
  · exact .inr (h e)
namespace Tm
mutual
def okB : Tm → Bool
  | mk k s n ks => nodeB (mk k s n ks) && okBs ks
def okBs : List Tm → Bool
  | [] => true
  | t :: ts => okB t && okBs ts
end
theorem okBs_all : ∀ l : List Tm, okBs l = l.all okB
  | [] => rfl
  | t :: l => by rw [okBs, List.all_cons, okBs_all l]
theorem okB_eq (t : Tm) : t.okB = (nodeB t && t.kids.all okB) := by cases t; rw [okB, okBs_all]; rfl
theorem okB_iff : ∀ t : Tm, t.okB = true ↔ Nodes t := by
  refine ind fun t ih => ?_
  rw [okB_eq, Bool.and_eq_true, nodeB_iff, List.all_eq_true]
  exact ⟨fun h => .mk t h.1 fun k hk => (ih k hk).1 (h.2 k hk), fun h => ⟨h.node, fun k hk => (ih k hk).2 (h.kids k hk)⟩⟩
end Tm
theorem rightB {t : Tm} (h : (decide (t.dep ≤ 200) && (decide (t.w ≤ 10000) && t.okB)) = true) : decide (RightT t) = true := by
  rw [Bool.and_eq_true, Bool.and_eq_true, decide_eq_true_eq, decide_eq_true_eq, Tm.okB_iff] at h
  exact decide_eq_true h
theorem wrongB {t : Tm} (h : t.okB = false) : decide (RightT t) = false := by
  refine decide_eq_false fun hr => ?_
  rw [(Tm.okB_iff t).2 hr.2.2] at h
  cases h
end Go.Proofs.YtddnigahjahkbaaGreatDoor
namespace Go.Proofs.YtddnigahjahkbaaGreatDoor
set_option linter.unusedVariables false
set_option linter.unusedSimpArgs false
set_option maxRecDepth 100000
open Go.RowKit Fw
theorem two_le (k : Int) (s : List UInt8) (a b : Tm) : PV.leL [.int .i64 k, .str s, .int .i64 0, .vec [a.enc, b.enc] true] (Tm.mk k s 0 [a, b]).enc := by
  rw [show (Tm.mk k s 0 [a, b]).enc = [.int .i64 k, .str s, .int .i64 0, .vec [a.enc, b.enc] false] from Tm.enc_eq _]
  exact ⟨rfl, rfl, rfl, ⟨nofun, PV.leLL_refl _⟩, trivial⟩
theorem one_le (k : Int) (s : List UInt8) (a : Tm) : PV.leL [.int .i64 k, .str s, .int .i64 0, .vec [a.enc] true] (Tm.mk k s 0 [a]).enc := by
  rw [show (Tm.mk k s 0 [a]).enc = [.int .i64 k, .str s, .int .i64 0, .vec [a.enc] false] from Tm.enc_eq _]
  exact ⟨rfl, rfl, rfl, ⟨nofun, PV.leLL_refl _⟩, trivial⟩
def xT : Tm := .mk 2 [120] 0 []
def oneT : Tm := .mk 1 [] 1 []
def plusT : Tm := .mk 12 [43] 0 [xT, oneT]
def fT : Tm := .mk 3 [120] 0 [plusT]
def getT : Tm := .mk 10 [] 0 [xT]
def tryT : Tm := .mk 9 [121] 0 [getT, oneT]
def nilT : Tm := .mk 0 [] 0 []
theorem itoa1 : Lib.itoa 1 = [49] := by rw [show (1 : Int) = ((1 : Nat) : Int) from rfl, Lib.itoa_nonneg, Lib.decDigits_one (by decide)]; rfl
theorem toks_f : toksT fT = [⟨3, [102, 117, 110], 0⟩, ⟨1, [120], 0⟩, ⟨4, [61, 62], 0⟩, ⟨4, [40], 0⟩, ⟨1, [120], 0⟩, ⟨4, [43], 0⟩, ⟨2, [49], 1⟩, ⟨4, [41], 0⟩] := by
  simp [fT, plusT, xT, oneT, toksT, wrapsT, layT, Tm.kind, itoa1]
theorem toks_try : toksT tryT = [⟨3, [116, 114, 121], 0⟩, ⟨4, [40], 0⟩, ⟨4, [33], 0⟩, ⟨1, [120], 0⟩, ⟨4, [41], 0⟩, ⟨3, [119, 105, 116, 104], 0⟩, ⟨1, [121], 0⟩, ⟨4, [61, 62], 0⟩, ⟨2, [49], 1⟩] := by
  simp [tryT, getT, xT, oneT, toksT, wrapsT, layT, Tm.kind, itoa1]
theorem toks_one : toksT oneT = [⟨2, [49], 1⟩] := by
  simp [oneT, toksT, wrapsT, layT, itoa1]
theorem right_f : RightT fT := of_decide_eq_true (rightB (by decide))
theorem right_try : RightT tryT := of_decide_eq_true (rightB (by decide))
theorem right_one : RightT oneT := of_decide_eq_true (rightB (by decide))
theorem right_nil : ¬ RightT nilT := of_decide_eq_false (wrongB (by decide))
theorem show_f : showV fT = [102, 117, 110, 32, 120, 32, 61, 62, 32, 40, 32, 120, 32, 43, 32, 49, 32, 41] := by
  unfold showV printT; rw [if_pos right_f, toks_f]; rfl
theorem show_try : showV tryT = [116, 114, 121, 32, 40, 32, 33, 32, 120, 32, 41, 32, 119, 105, 116, 104, 32, 121, 32, 61, 62, 32, 49] := by
  unfold showV printT; rw [if_pos right_try, toks_try]; rfl
theorem show_one : showV oneT = [49] := by
  unfold showV printT; rw [if_pos right_one, toks_one]; rfl
theorem show_nil : showV nilT = [63] := if_neg right_nil
theorem ok_f : ∀ x ∈ toksV fT, TkOk x := by
  unfold toksV
  rw [if_pos right_f, toks_f]
  have hx : wordP [120] := wordB_iff.1 (by decide)
  have h1 : TkOk ⟨1, [120], 0⟩ := .inl ⟨rfl, hx.1, hx.2, rfl⟩
  have hm : ∀ s (k : Nat), fidx (hasP s) mks = k → mks[k]? = some s → TkOk ⟨4, s, 0⟩ := fun s k h h2 => .inr (.inr (.inr ⟨rfl, rfl, k, h, h2⟩))
  intro x h
  simp only [List.mem_cons, List.not_mem_nil, or_false] at h
  rcases h with rfl | rfl | rfl | rfl | rfl | rfl | rfl | rfl
  · exact .inr (.inl ⟨rfl, by decide, rfl⟩)
  · exact h1
  · exact hm _ 0 (by decide) rfl
  · exact hm _ 2 (by decide) rfl
  · exact h1
  · exact hm _ 8 (by decide) rfl
  · exact .inr (.inr (.inl ⟨rfl, rfl, rfl⟩))
  · exact hm _ 3 (by decide) rfl
set_option maxHeartbeats 4000000 in
theorem c5 (Γ : Nat → PV) (hΓ : Tab Γ) : Gives Tryz.prog Γ 5 [] (.bool true) := by
  have sf := c11 Γ hΓ fT (by decide)
  rw [show_f] at sf
  have st := c11 Γ hΓ tryT (by decide)
  rw [show_try] at st
  have so := c11 Γ hΓ oneT (by decide)
  rw [show_one] at so
  have sn := (c11 Γ hΓ nilT (by decide)).args (args := [.agg [.int .i64 0, .str [], .int .i64 0, .vec [] true]]) ⟨leaf_le 0 0 [], trivial⟩
  rw [show_nil] at sn
  have tf := c8 Γ hΓ fT (by decide)
  have tr := c15 Γ hΓ (toksV fT) false ok_f
  have hlf : (toksV fT).length = 8 := by unfold toksV; rw [if_pos right_f, toks_f]; rfl
  have tn := (c8 Γ hΓ nilT (by decide)).args (args := [.agg [.int .i64 0, .str [], .int .i64 0, .vec [] true]]) ⟨leaf_le 0 0 [], trivial⟩
  rw [show toksV nilT = [] from if_neg right_nil] at tn
  generalize toksV fT = tks at tf tr hlf
  have hl8 : ((tks.map Tk.enc).length : Int) = 8 := by rw [List.length_map, hlf]; rfl
  have l1 : PV.leL [.int .i64 2, .str [120], .int .i64 0, .vec [] true] xT.enc := leaf_le 2 0 [120]
  have l2 : PV.leL [.int .i64 1, .str [], .int .i64 1, .vec [] true] oneT.enc := leaf_le 1 1 []
  have l3 : PV.leL [.int .i64 12, .str [43], .int .i64 0, .vec [xT.enc, oneT.enc] true] plusT.enc := two_le 12 [43] xT oneT
  have l4 : PV.leL [.int .i64 3, .str [120], .int .i64 0, .vec [plusT.enc] true] fT.enc := one_le 3 [120] plusT
  have l5 : PV.leL [.int .i64 10, .str [], .int .i64 0, .vec [xT.enc] true] getT.enc := one_le 10 [] xT
  have l6 : PV.leL [.int .i64 9, .str [121], .int .i64 0, .vec [getT.enc, oneT.enc] true] tryT.enc := two_le 9 [121] getT oneT
  refine fn_of_awp Tryz.func5 rfl (by simp [Tryz.f5]) rfl fun H => ?_
  refine awp_seq ?_
  refine awp_run rfl (by simp only [fwA, seval, gfw, bx, dx] <;> rfl) ?_
  refine awp_seq ?_
  refine awp_run rfl (by simp only [fwA, seval, gfw, bx, dx] <;> rfl) ?_
  refine awp_told (told_leBox H.length (get_at0 H _) l1) ?_
  refine awp_heap (H' := H ++ [.box xT.enc]) (by simp) ?_
  refine awp_seq ?_
  refine awp_run rfl (by simp only [fwA, seval, gfw, bx, dx] <;> rfl) ?_
  refine awp_told (told_leBox (H.length + 1) (by simp) l2) ?_
  refine awp_heap (H' := H ++ [.box xT.enc, .box oneT.enc]) (by simp) ?_
  refine awp_seq ?_
  refine awp_run rfl (by simp only [fwA, seval, gfw, bx, dx, Tm.fw, PV.cells, List.take_zero, List.append_nil] <;> rfl) ?_
  refine awp_told (told_leBox (H.length + 2) (by simp) l3) ?_
  refine awp_heap (H' := H ++ [.box xT.enc, .box oneT.enc, .box plusT.enc]) (by simp) ?_
  refine awp_seq ?_
  refine awp_run rfl (by simp only [fwA, seval, gfw, bx, dx, Tm.fw, PV.cells, List.take_zero, List.append_nil] <;> rfl) ?_
  refine awp_told (told_leBox (H.length + 3) (by simp) l4) ?_
  refine awp_heap (H' := H ++ [.box xT.enc, .box oneT.enc, .box plusT.enc, .box fT.enc]) (by simp) ?_
  refine awp_seq ?_
  refine awp_run rfl (by simp only [fwA, seval, gfw, bx, dx, Tm.fw, PV.cells, List.take_zero, List.append_nil] <;> rfl) ?_
  refine awp_told (told_leBox (H.length + 4) (by simp) l5) ?_
  refine awp_heap (H' := H ++ [.box xT.enc, .box oneT.enc, .box plusT.enc, .box fT.enc, .box getT.enc]) (by simp) ?_
  refine awp_seq ?_
  refine awp_run rfl (by simp only [fwA, seval, gfw, bx, dx, Tm.fw, PV.cells, List.take_zero, List.append_nil] <;> rfl) ?_
  refine awp_told (told_leBox (H.length + 5) (by simp) l6) ?_
  refine awp_heap (H' := H ++ [.box xT.enc, .box oneT.enc, .box plusT.enc, .box fT.enc, .box getT.enc, .box tryT.enc]) (by simp) ?_
  refine awp_keep (A' := [(1, .ptr H.length 0), (2, .ptr (H.length + 1) 0), (4, .ptr (H.length + 3) 0), (6, .ptr (H.length + 5) 0)]) [1, 2, 4, 6] (by simp only [fwA, seval, akeep, List.map_cons, List.map_nil] <;> rfl) ?_
  refine awp_seq ?_
  refine awp_region rfl ?_
  refine aops_run 1 (by simp only [fwA, seval, gfw, bx, dx, Tm.fw, hl8, hlf] <;> rfl) ?_
  refine aops_fn rfl rfl rfl en11 sf ?_
  refine aops_run 3 (by simp only [fwA, seval, gfw, bx, dx, Tm.fw, hl8, hlf] <;> rfl) ?_
  refine aops_fnIf rfl rfl rfl rfl rfl en11 st ?_
  refine aops_run 4 (by simp only [fwA, seval, gfw, bx, dx, Tm.fw, hl8, hlf] <;> rfl) ?_
  refine aops_fnIf rfl rfl rfl rfl rfl en11 sn ?_
  refine aops_run 4 (by simp only [fwA, seval, gfw, bx, dx, Tm.fw, hl8, hlf] <;> rfl) ?_
  refine aops_fnIf rfl rfl rfl rfl rfl en8 tf ?_
  refine aops_run 5 (by simp only [fwA, seval, gfw, bx, dx, Tm.fw, hl8, hlf] <;> rfl) ?_
  refine aops_fnIf rfl rfl rfl rfl rfl en8 tf ?_
  refine aops_fnIf rfl rfl rfl rfl rfl en15 tr ?_
  refine aops_run 3 (by simp only [fwA, seval, gfw, bx, dx, Tm.fw, hl8, hlf] <;> rfl) ?_
  refine aops_fnIf rfl rfl rfl rfl rfl en8 tn ?_
  refine aops_run 5 (by simp only [fwA, seval, gfw, bx, dx, Tm.fw, hl8, hlf] <;> rfl) ?_
  refine aops_fnIf rfl rfl rfl rfl rfl en11 so ?_
  refine aops_run 3 (by simp only [fwA, seval, gfw, bx, dx, Tm.fw, hl8, hlf] <;> rfl) ?_
  refine aops_end ?_
  refine awp_ret ?_
  exact gives_end (.inl rfl) _ rfl
end Go.Proofs.YtddnigahjahkbaaGreatDoor
namespace Go.Proofs.YtddnigahjahkbaaGreatDoor
set_option linter.unusedVariables false
set_option linter.unusedSimpArgs false
set_option maxRecDepth 100000
open Go.RowKit Fw
theorem dec_one {n : Nat} (h : n < 10) : Lib.decDigits n = [UInt8.ofNat (48 + n)] := by rw [Lib.decDigits, dif_pos h]
theorem dec_step {n : Nat} (h : ¬ n < 10) : Lib.decDigits n = Lib.decDigits (n / 10) ++ [UInt8.ofNat (48 + n % 10)] := by rw [Lib.decDigits, dif_neg h]
theorem dig_byte {k : Nat} (h : k < 10) : digB (UInt8.ofNat (48 + k)) = true := by
  have : ∀ k : Fin 10, digB (UInt8.ofNat (48 + k.val)) = true := by decide
  exact this ⟨k, h⟩
theorem dec_digs : ∀ n : Nat, ∀ c ∈ Lib.decDigits n, digB c = true := by
  intro n
  induction n using Nat.strongRecOn with
  | _ n ih =>
  by_cases h : n < 10
  · rw [dec_one h]
    intro c hc
    rw [List.mem_singleton] at hc
    rw [hc]; exact dig_byte h
  · rw [dec_step h]
    intro c hc
    rcases List.mem_append.1 hc with hc | hc
    · exact ih (n / 10) (by omega) c hc
    · rw [List.mem_singleton] at hc
      rw [hc]; exact dig_byte (Nat.mod_lt _ (by decide))
theorem dec_ne (n : Nat) : Lib.decDigits n ≠ [] := by
  by_cases h : n < 10
  · rw [dec_one h]; simp
  · rw [dec_step h]; simp
theorem byte_inj {a b : Nat} (ha : a < 10) (hb : b < 10) (h : UInt8.ofNat (48 + a) = UInt8.ofNat (48 + b)) : a = b := by
  have := congrArg UInt8.toNat h
  simp at this
  omega
theorem dec_inj : ∀ n m : Nat, Lib.decDigits n = Lib.decDigits m → n = m := by
  intro n
  induction n using Nat.strongRecOn with
  | _ n ih =>
  intro m h
  by_cases hn : n < 10
  · by_cases hm : m < 10
    · rw [dec_one hn, dec_one hm] at h
      exact byte_inj hn hm (List.cons.inj h).1
    · rw [dec_one hn, dec_step hm] at h
      have := congrArg List.length h
      have h2 : (Lib.decDigits (m / 10)).length ≠ 0 := fun e => dec_ne _ (List.eq_nil_of_length_eq_zero e)
      rw [List.length_append] at this
      simp only [List.length_cons, List.length_nil] at this
      omega
  · by_cases hm : m < 10
    · rw [dec_step hn, dec_one hm] at h
      have := congrArg List.length h
      have h2 : (Lib.decDigits (n / 10)).length ≠ 0 := fun e => dec_ne _ (List.eq_nil_of_length_eq_zero e)
      rw [List.length_append] at this
      simp only [List.length_cons, List.length_nil] at this
      omega
    · rw [dec_step hn, dec_step hm] at h
      obtain ⟨h1, h2⟩ := List.append_inj' h rfl
      have e1 := ih (n / 10) (by omega) _ h1
      have e2 := byte_inj (Nat.mod_lt n (by decide)) (Nat.mod_lt m (by decide)) (List.cons.inj h2).1
      omega
theorem itoa_dec {n : Int} (h : 0 ≤ n) : Lib.itoa n = Lib.decDigits n.toNat := by
  have := Lib.itoa_nonneg n.toNat
  rwa [Int.toNat_of_nonneg h] at this
theorem itoa_digs {n : Int} (h : 0 ≤ n) : ∀ c ∈ Lib.itoa n, digB c = true := by rw [itoa_dec h]; exact dec_digs _
theorem itoa_ne {n : Int} (h : 0 ≤ n) : Lib.itoa n ≠ [] := by rw [itoa_dec h]; exact dec_ne _
theorem itoa_inj {a b : Int} (ha : 0 ≤ a) (hb : 0 ≤ b) (h : Lib.itoa a = Lib.itoa b) : a = b := by
  rw [itoa_dec ha, itoa_dec hb] at h
  have := dec_inj _ _ h
  omega
theorem itoa_not {n : Int} {s : List UInt8} (h : 0 ≤ n) (hs : s.all digB = false) : Lib.itoa n ≠ s := fun e => by
  rw [← e, List.all_eq_false] at hs
  obtain ⟨c, hc, hd⟩ := hs
  exact hd (itoa_digs h c hc)
theorem word_not {t s : List UInt8} (h : wordP t) (hs : wordB s = false) : t ≠ s := fun e => by
  rw [e] at h
  rw [wordB_iff.2 h] at hs; cases hs
theorem name_chars {s : List UInt8} (h : nameP s) : ∀ c ∈ s, letB c = true ∨ digB c = true := fun c hc => by
  obtain ⟨i, hi⟩ := List.getElem?_of_mem hc
  have := h.2.2 i (List.getElem?_eq_some_iff.1 hi).1 c hi
  unfold nmAt at this
  simp only [Bool.and_true, Bool.or_eq_true, Bool.and_eq_true] at this
  rcases this with h | h
  · exact .inl h
  · exact .inr h.1
theorem name_ne {s : List UInt8} (h : nameP s) : s ≠ [] := fun e => by have := h.1; rw [e] at this; simp at this
theorem name_first {s : List UInt8} (h : nameP s) : ∃ c r, s = c :: r ∧ letB c = true := by
  cases s with
  | nil => exact absurd rfl (name_ne h)
  | cons c r =>
    have := h.2.2 0 (by simp) c rfl
    unfold nmAt at this
    exact ⟨c, r, rfl, by simpa using this⟩
theorem TkForm.text {x : Tk} (h : TkForm x) : x.text ≠ [] ∧ (32 : UInt8) ∉ x.text ∧ (63 : UInt8) ∉ x.text := by
  rcases h with ⟨_, _, h⟩ | ⟨_, h1, _, h⟩ | ⟨_, _, h⟩ | ⟨_, _, h⟩
  · exact ⟨name_ne h.1, fun hc => by have := name_chars h.1 _ hc; exact absurd this (by decide), fun hc => by have := name_chars h.1 _ hc; exact absurd this (by decide)⟩
  · rw [h]
    exact ⟨itoa_ne h1, fun hc => by have := itoa_digs h1 _ hc; exact absurd this (by decide), fun hc => by have := itoa_digs h1 _ hc; exact absurd this (by decide)⟩
  · exact (by decide : ∀ s ∈ kws, s ≠ [] ∧ (32 : UInt8) ∉ s ∧ (63 : UInt8) ∉ s) _ h
  · exact (by decide : ∀ s ∈ mks, s ≠ [] ∧ (32 : UInt8) ∉ s ∧ (63 : UInt8) ∉ s) _ h
theorem TkForm.inj {x y : Tk} (hx : TkForm x) (hy : TkForm y) (h : x.text = y.text) : x = y := by
  have hk : ∀ s ∈ kws, s.all digB = false := by decide
  have hm : ∀ s ∈ mks, s.all digB = false ∧ wordB s = false ∧ s ∉ kws := by decide
  have hw : ∀ s : List UInt8, wordP s → s.all digB = false := fun s hs => by
    obtain ⟨c, r, rfl, hc⟩ := name_first hs.1
    rw [List.all_eq_false]
    refine ⟨c, List.mem_cons_self, fun hd => ?_⟩
    unfold letB at hc; unfold digB at hd
    simp only [Bool.or_eq_true, Bool.and_eq_true, decide_eq_true_eq] at hc hd
    omega
  obtain ⟨k, s, n⟩ := x
  obtain ⟨k', s', n'⟩ := y
  unfold TkForm at hx hy
  simp only at hx hy h
  subst h
  rcases hx with ⟨rfl, rfl, h1⟩ | ⟨rfl, h1, _, h2⟩ | ⟨rfl, rfl, h1⟩ | ⟨rfl, rfl, h1⟩ <;> rcases hy with ⟨rfl, rfl, h3⟩ | ⟨rfl, h3, _, h4⟩ | ⟨rfl, rfl, h3⟩ | ⟨rfl, rfl, h3⟩
  · rfl
  · exact absurd h4.symm (itoa_not h3 (hw _ h1))
  · exact absurd h3 h1.2
  · exact absurd rfl (word_not h1 (hm _ h3).2.1)
  · exact absurd h2.symm (itoa_not h1 (hw _ h3))
  · rw [itoa_inj h1 h3 (h2.symm.trans h4)]
  · exact absurd h2.symm (itoa_not h1 (hk _ h3))
  · exact absurd h2.symm (itoa_not h1 (hm _ h3).1)
  · exact absurd h1 h3.2
  · exact absurd h4.symm (itoa_not h3 (hk _ h1))
  · rfl
  · exact absurd h1 (hm _ h3).2.2
  · exact absurd rfl (word_not h3 (hm _ h1).2.1)
  · exact absurd h4.symm (itoa_not h3 (hm _ h1).1)
  · exact absurd h3 (hm _ h1).2.2
  · rfl
theorem joinB_cons (x y : List UInt8) (r : List (List UInt8)) : Lib.join (x :: y :: r) [32] = x ++ 32 :: Lib.join (y :: r) [32] := by
  rw [Lib.join_cons, Lib.join_cons]; simp [Lib.joinTail]
theorem join_app : ∀ {l m : List (List UInt8)}, l ≠ [] → m ≠ [] → Lib.join (l ++ m) [32] = Lib.join l [32] ++ 32 :: Lib.join m [32]
  | [], _, h, _ => absurd rfl h
  | [x], [], _, h => absurd rfl h
  | [x], y :: m, _, _ => by rw [List.singleton_append, joinB_cons, Lib.join_one]
  | x :: z :: l, m, _, hm => by
    rw [List.cons_append, List.cons_append, joinB_cons, ← List.cons_append, join_app (l := z :: l) (by simp) hm, joinB_cons]; simp
theorem print_app {l m : List Tk} (hl : l ≠ []) (hm : m ≠ []) : printT (l ++ m) = printT l ++ 32 :: printT m := by
  unfold printT
  rw [List.map_append, join_app (by simpa using hl) (by simpa using hm)]
theorem print_one (x : Tk) : printT [x] = x.text := Lib.join_one _ _
end Go.Proofs.YtddnigahjahkbaaGreatDoor
namespace Go.Proofs.YtddnigahjahkbaaGreatDoor
set_option linter.unusedVariables false
set_option linter.unusedSimpArgs false
set_option maxRecDepth 100000
open Go.RowKit Fw
inductive It where
  | tok (x : Tk) | par (t : Tm)
def openT : Tk := ⟨4, [40], 0⟩
def closeT : Tk := ⟨4, [41], 0⟩
def It.fl : It → List Tk
  | .tok x => [x]
  | .par t => openT :: toksT t ++ [closeT]
def flI (l : List It) : List Tk := (l.map It.fl).flatten
def kIt (t : Tm) : It := if t.kind = 1 then .tok ⟨2, Lib.itoa t.n, t.n⟩ else if t.kind = 2 then .tok ⟨1, t.name, 0⟩ else .par t
def It.un : It → Tm
  | .tok x => if x.kind = 2 then .mk 1 [] x.n [] else .mk 2 x.text 0 []
  | .par t => t
def itemsT (t : Tm) : List It :=
  let K := fun i => kIt (t.kids.getD i (.mk 0 [] 0 []))
  let w := fun s => It.tok ⟨3, s, 0⟩
  let m := fun s => It.tok ⟨4, s, 0⟩
  let n := It.tok ⟨1, t.name, 0⟩
  if t.kind = 1 then [.tok ⟨2, Lib.itoa t.n, t.n⟩]
  else if t.kind = 2 then [n]
  else if t.kind = 3 then [w [102, 117, 110], n, m [61, 62], K 0]
  else if t.kind = 4 then [K 0, K 1]
  else if t.kind = 5 then [w [108, 101, 116], n, m [61], K 0, w [105, 110], K 1]
  else if t.kind = 6 then [w [105, 102], K 0, w [116, 104, 101, 110], K 1, w [101, 108, 115, 101], K 2]
  else if t.kind = 7 then [w [119, 104, 105, 108, 101], K 0, w [100, 111], K 1]
  else if t.kind = 8 then [w [114, 97, 105, 115, 101], K 0]
  else if t.kind = 9 then [w [116, 114, 121], K 0, w [119, 105, 116, 104], n, m [61, 62], K 1]
  else if t.kind = 10 then [m [33], K 0]
  else if t.kind = 11 then [K 0, m [58, 61], K 1]
  else if t.kind = 12 then [K 0, m t.name, K 1]
  else [K 0, m [59], K 1]
def It.hd : It → List UInt8
  | .tok x => if x.kind = 3 ∨ x.kind = 4 then x.text else []
  | .par _ => []
def It.txt : It → List UInt8
  | .tok x => x.text
  | .par _ => []
def decI (l : List It) : Tm :=
  let K := fun i => (l.getD i (.par (.mk 0 [] 0 []))).un
  let n := fun i => (l.getD i (.par (.mk 0 [] 0 []))).txt
  let h := (l.getD 0 (.par (.mk 0 [] 0 []))).hd
  if l.length = 1 then K 0
  else if l.length = 2 then (if h = [114, 97, 105, 115, 101] then .mk 8 [] 0 [K 1] else if h = [33] then .mk 10 [] 0 [K 1] else .mk 4 [] 0 [K 0, K 1])
  else if l.length = 3 then (if n 1 = [58, 61] then .mk 11 [] 0 [K 0, K 2] else if n 1 = [59] then .mk 13 [] 0 [K 0, K 2] else .mk 12 (n 1) 0 [K 0, K 2])
  else if l.length = 4 then (if h = [102, 117, 110] then .mk 3 (n 1) 0 [K 3] else .mk 7 [] 0 [K 1, K 3])
  else if h = [108, 101, 116] then .mk 5 (n 1) 0 [K 3, K 5]
  else if h = [105, 102] then .mk 6 [] 0 [K 1, K 3, K 5]
  else .mk 9 (n 3) 0 [K 1, K 5]
theorem kids_at {t : Tm} (h : nodeP t) : (t.kind = 1 ∧ t.kids = []) ∨ (t.kind = 2 ∧ t.kids = [] ∧ t.n = 0) ∨ (∃ a, (t.kind = 3 ∨ t.kind = 8 ∨ t.kind = 10) ∧ t.kids = [a] ∧ t.n = 0) ∨ (∃ a b, (t.kind = 4 ∨ t.kind = 5 ∨ t.kind = 7 ∨ t.kind = 9 ∨ t.kind = 11 ∨ t.kind = 12 ∨ t.kind = 13) ∧ t.kids = [a, b] ∧ t.n = 0) ∨ ∃ a b c, t.kind = 6 ∧ t.kids = [a, b, c] ∧ t.n = 0 := by
  obtain ⟨⟨hk1, hk2⟩, hlen, hn1, hn2, hn3, hnm⟩ := h
  have hcs : t.kind = 1 ∨ t.kind = 2 ∨ (t.kind = 3 ∨ t.kind = 8 ∨ t.kind = 10) ∨ (t.kind = 4 ∨ t.kind = 5 ∨ t.kind = 7 ∨ t.kind = 9 ∨ t.kind = 11 ∨ t.kind = 12 ∨ t.kind = 13) ∨ t.kind = 6 := by omega
  rcases hcs with h | h | h | h | h
  · rw [h, show kidsTab.getD (Int.toNat 1) 0 = 0 from rfl] at hlen
    exact .inl ⟨h, List.eq_nil_of_length_eq_zero (by omega)⟩
  · rw [h, show kidsTab.getD (Int.toNat 2) 0 = 0 from rfl] at hlen
    exact .inr (.inl ⟨h, List.eq_nil_of_length_eq_zero (by omega), hn1 (by omega)⟩)
  · have : kidsTab.getD t.kind.toNat 0 = 1 := by rcases h with h | h | h <;> rw [h] <;> rfl
    obtain ⟨a, e⟩ := List.length_eq_one_iff.1 (show t.kids.length = 1 by omega)
    exact .inr (.inr (.inl ⟨a, h, e, hn1 (by omega)⟩))
  · have : kidsTab.getD t.kind.toNat 0 = 2 := by rcases h with h | h | h | h | h | h | h <;> rw [h] <;> rfl
    obtain ⟨a, b, e⟩ := len2 (show t.kids.length = 2 by omega)
    exact .inr (.inr (.inr (.inl ⟨a, b, h, e, hn1 (by omega)⟩)))
  · rw [h, show kidsTab.getD (Int.toNat 6) 0 = 3 from rfl] at hlen
    obtain ⟨a, b, c, e⟩ := len3 (show t.kids.length = 3 by omega)
    exact .inr (.inr (.inr (.inr ⟨a, b, c, h, e, hn1 (by omega)⟩)))
def Stop (r : List Tk) : Prop := r = [] ∨ ∃ q, r = closeT :: q
def ItOk (n : Nat) : It → Prop
  | .tok x => x ≠ openT ∧ x ≠ closeT
  | .par t => Nodes t ∧ t.w < n
theorem ItOk.mono {n m : Nat} (h : n ≤ m) {i : It} (hi : ItOk n i) : ItOk m i := by
  cases i with
  | tok x => exact hi
  | par t => exact ⟨hi.1, Nat.lt_of_lt_of_le hi.2 h⟩
end Go.Proofs.YtddnigahjahkbaaGreatDoor
namespace Go.Proofs.YtddnigahjahkbaaGreatDoor
set_option linter.unusedVariables false
set_option linter.unusedSimpArgs false
set_option maxRecDepth 100000
open Go.RowKit Fw
theorem cnt_tab {k : Nat} (h : k ≤ 13) (h1 : 1 ≤ k) : kidsTab.getD (k : Int).toNat 0 = (cntT k : Int) := by
  have : ∀ k : Fin 14, 1 ≤ k.val → kidsTab.getD (k.val : Int).toNat 0 = (cntT k.val : Int) := by decide
  exact this ⟨k, by omega⟩ h1
theorem nm5_word : ∀ s ∈ nm5, wordP s := fun s hs => wordB_iff.1 ((by decide : ∀ s ∈ nm5, wordB s = true) s hs)
theorem mk_node (L : List Int) (hL : By L) (z : Bool) (a : Nat) (ks : List Tm) (h : ks.length = cntT (kdT L z a)) : nodeP (.mk (kdT L z a) (nmT L z a) (nT L z a) ks) := by
  have hr := kd_rng L z a
  have hb := nb_lt hL (a2T L a)
  refine ⟨⟨by show (1 : Int) ≤ (kdT L z a : Int); omega, by show (kdT L z a : Int) < 14; omega⟩, ?_, fun e => ?_, ?_, ?_, ?_⟩
  · show (ks.length : Int) = kidsTab.getD (kdT L z a : Int).toNat 0
    rw [cnt_tab hr.2 hr.1, h]
  · have e : (kdT L z a : Int) ≠ 1 := e
    show nT L z a = 0
    unfold nT
    rw [if_neg (by omega)]
  · show 0 ≤ nT L z a
    unfold nT
    split <;> omega
  · show nT L z a < 2147483648
    unfold nT
    split <;> omega
  · unfold nmOk Tm.binder
    show (if (kdT L z a : Int) = 12 then nmT L z a ∈ opNs else if (kdT L z a : Int) = 2 ∨ (decide ((kdT L z a : Int) = 3) || decide ((kdT L z a : Int) = 5) || decide ((kdT L z a : Int) = 9)) = true then wordP (nmT L z a) else nmT L z a = [])
    unfold nmT
    by_cases h1 : kdT L z a = 12
    · rw [if_pos (by omega), if_neg (by omega), if_pos h1, List.getD_eq_getElem?_getD]
      have hlt : nb L (a2T L a) % 5 < op5.length := Nat.mod_lt _ (by decide)
      rw [List.getElem?_eq_getElem hlt]
      exact List.getElem_mem hlt
    · rw [if_neg (by omega)]
      by_cases h2 : kdT L z a = 2 ∨ kdT L z a = 3 ∨ kdT L z a = 5 ∨ kdT L z a = 9
      · rw [if_pos (by
          rcases h2 with h | h | h | h
          · exact .inl (by omega)
          all_goals (right; rw [h]; rfl)), if_neg (by omega), if_neg h1, if_pos h2, List.getD_eq_getElem?_getD]
        have hlt : nb L (na L a) % 5 < nm5.length := Nat.mod_lt _ (by decide)
        rw [List.getElem?_eq_getElem hlt]
        exact nm5_word _ (List.getElem_mem hlt)
      · rw [if_neg (by
          intro h
          apply h2
          simp only [Bool.or_eq_true, decide_eq_true_eq] at h
          omega)]
        by_cases h3 : kdT L z a = 1
        · rw [if_pos h3]
        · rw [if_neg h3, if_neg h1, if_neg h2]
def wB : Nat → Nat
  | 0 => 1
  | d + 1 => 3 * wB d + 1
theorem kidsG_all {g : Nat → Tm × Nat} {Q : Tm → Prop} (h : ∀ a, Q (g a).1) (a : Nat) : ∀ n, ∀ k ∈ (kidsG g a n).1, Q k
  | 0 => fun k hk => by cases hk
  | n + 1 => fun k hk => by
    rw [kidsG] at hk
    rcases List.mem_append.1 hk with hk | hk
    · exact kidsG_all h a n k hk
    · rw [List.mem_singleton] at hk; rw [hk]; exact h _
theorem sum_le_mul {l : List Tm} {n : Nat} (h : ∀ k ∈ l, k.w ≤ n) : (l.map Tm.w).sum ≤ l.length * n := by
  induction l with
  | nil => simp
  | cons x l ih =>
    have h1 := h x (by simp)
    have h2 := ih fun k hk => h k (by simp [hk])
    rw [List.map_cons, List.sum_cons, List.length_cons, Nat.add_mul]; omega
theorem mk_right (L : List Int) (hL : By L) : ∀ d a, Nodes (mkT L d a).1 ∧ (mkT L d a).1.dep ≤ d + 1 ∧ (mkT L d a).1.w ≤ wB d
  | 0, a => by
    rw [mkT]
    have h := kd_true L a
    have hc : cntT (kdT L true a) = 0 := by rcases h with h | h <;> rw [h] <;> rfl
    refine ⟨.mk _ (mk_node L hL true a [] hc.symm) (fun k hk => by cases hk), ?_, ?_⟩
    · rw [Tm.dep_eq]; exact Nat.le_refl _
    · rw [Tm.w_eq]; exact Nat.le_refl _
  | d + 1, a => by
    have ih := mk_right L hL d
    rw [mkT]
    have hall := kidsG_all (g := mkT L d) (Q := fun t => Nodes t ∧ t.dep ≤ d + 1 ∧ t.w ≤ wB d) ih (a3T L false a) (cntT (kdT L false a))
    have hl := kidsG_len (mkT L d) (a3T L false a) (cntT (kdT L false a))
    have hc := cnt_le (kdT L false a)
    refine ⟨.mk _ (mk_node L hL false a _ hl) fun k hk => (hall k hk).1, ?_, ?_⟩
    · rw [Tm.dep_eq]
      have := maxL_le (l := ((kidsG (mkT L d) (a3T L false a) (cntT (kdT L false a))).1).map Tm.dep) (n := d + 1) fun x hx => by
        obtain ⟨k, hk, rfl⟩ := List.mem_map.1 hx
        exact (hall k hk).2.1
      show maxL (((kidsG (mkT L d) (a3T L false a) (cntT (kdT L false a))).1).map Tm.dep) + 1 ≤ _
      omega
    · rw [Tm.w_eq]
      have := sum_le_mul (l := (kidsG (mkT L d) (a3T L false a) (cntT (kdT L false a))).1) (n := wB d) fun k hk => (hall k hk).2.2
      rw [hl] at this
      have h2 : cntT (kdT L false a) * wB d ≤ 3 * wB d := Nat.mul_le_mul_right _ hc
      show (((kidsG (mkT L d) (a3T L false a) (cntT (kdT L false a))).1).map Tm.w).sum + 1 ≤ 3 * wB d + 1
      omega
theorem made_right {l : List Int} (h : ∀ x ∈ l, 0 ≤ x ∧ x < 256) : RightT (madeT l) ∧ (madeT l).dep ≤ 7 ∧ (madeT l).w ≤ 1093 := by
  obtain ⟨h1, h2, h3⟩ := mk_right (madeB l) (made_by h) 6 0
  have h4 : wB 6 = 1093 := by decide
  rw [h4] at h3
  exact ⟨⟨by show (mkT (madeB l) 6 0).1.dep ≤ 200; omega, by show (mkT (madeB l) 6 0).1.w ≤ 10000; omega, h1⟩, h2, h3⟩
def cntS (s : List UInt8) (l : List Tk) : Nat := l.countP fun x => decide (x.text = s)
theorem cntS_app (s : List UInt8) (l m : List Tk) : cntS s (l ++ m) = cntS s l + cntS s m := List.countP_append
theorem cntS_cons (s : List UInt8) (x : Tk) (l : List Tk) : cntS s (x :: l) = cntS s l + if x.text = s then 1 else 0 := by
  unfold cntS
  rw [List.countP_cons]
  congr 1
  by_cases h : x.text = s <;> simp [h]
def tabK : List (List UInt8 × Int) := [([102, 117, 110], 3), ([108, 101, 116], 5), ([101, 108, 115, 101], 6), ([119, 104, 105, 108, 101], 7), ([114, 97, 105, 115, 101], 8), ([116, 114, 121], 9), ([59], 13), ([58, 61], 11), ([33], 10)]
def opn (l : List Tk) : Int := (cntS [40] l : Int) - (cntS [41] l : Int)
theorem opn_app (l m : List Tk) : opn (l ++ m) = opn l + opn m := by unfold opn; rw [cntS_app, cntS_app]; omega
theorem opn_nil : opn [] = 0 := rfl
def Bal (l : List Tk) : Prop := (∀ i, 0 ≤ opn (l.take i)) ∧ opn l = 0
theorem Bal.nil : Bal [] := ⟨fun i => by rw [List.take_nil]; exact Int.le_refl _, rfl⟩
theorem Bal.app {l m : List Tk} (h : Bal l) (k : Bal m) : Bal (l ++ m) := by
  refine ⟨fun i => ?_, by rw [opn_app, h.2, k.2]; rfl⟩
  rw [List.take_append, opn_app]
  have := h.1 i; have := k.1 (i - l.length); omega
theorem opn_one {x : Tk} (h1 : x.text ≠ [40]) (h2 : x.text ≠ [41]) : opn [x] = 0 := by
  unfold opn
  rw [cntS_cons, cntS_cons, if_neg h1, if_neg h2]; rfl
theorem Bal.one {x : Tk} (h1 : x.text ≠ [40]) (h2 : x.text ≠ [41]) : Bal [x] := ⟨fun i => by
  cases i with
  | zero => exact Int.le_refl _
  | succ i => rw [List.take_of_length_le (by simp), opn_one h1 h2]; exact Int.le_refl _, opn_one h1 h2⟩
theorem Bal.par {l : List Tk} (h : Bal l) : Bal (⟨4, [40], 0⟩ :: l ++ [⟨4, [41], 0⟩]) := by
  have h1 : opn [(⟨4, [40], 0⟩ : Tk)] = 1 := rfl
  have h2 : opn [(⟨4, [41], 0⟩ : Tk)] = -1 := rfl
  have e : (⟨4, [40], 0⟩ : Tk) :: l ++ [⟨4, [41], 0⟩] = [⟨4, [40], 0⟩] ++ (l ++ [⟨4, [41], 0⟩]) := rfl
  rw [e]
  refine ⟨fun i => ?_, by rw [opn_app, opn_app, h1, h2, h.2]; rfl⟩
  rw [List.take_append, opn_app, List.take_append, opn_app]
  have h3 := h.1 (i - [(⟨4, [40], 0⟩ : Tk)].length)
  cases i with
  | zero => simp [opn_nil]
  | succ i =>
    rw [List.take_of_length_le (l := [(⟨4, [40], 0⟩ : Tk)]) (by simp), h1]
    generalize i + 1 - [(⟨4, [40], 0⟩ : Tk)].length - l.length = j
    cases j with
    | zero => rw [List.take_zero, opn_nil]; omega
    | succ j => rw [List.take_of_length_le (l := [(⟨4, [41], 0⟩ : Tk)]) (by simp), h2]; omega
theorem toks_ne {t : Tm} (h : nodeP t) : toksT t ≠ [] := by
  rw [toksT_eq]
  have hwn : ∀ k : Tm, k.kind = 1 ∨ k.kind = 2 ∨ withinT k ≠ [] := fun k => by
    unfold withinT
    by_cases hk : k.kind = 1 ∨ k.kind = 2
    · rcases hk with hk | hk
      · exact .inl hk
      · exact .inr (.inl hk)
    · rw [if_neg hk]; exact .inr (.inr (by simp))
  have hw : ∀ k : Tm, withinT k ≠ [] := fun k => by
    rcases hwn k with e | e | e
    · unfold withinT; rw [if_pos (.inl e), toksT_eq]; simp [layT, e]
    · unfold withinT; rw [if_pos (.inr e), toksT_eq]; simp [layT, e]
    · exact e
  rcases kids_at h with ⟨hk, e⟩ | ⟨hk, e, en⟩ | ⟨a, hk, e, en⟩ | ⟨a, b, hk, e, en⟩ | ⟨a, b, c, hk, e, en⟩
  · simp [layT, hk]
  · simp [layT, hk]
  · rcases hk with hk | hk | hk <;> simp [layT, hk]
  · have := hw a
    rcases hk with hk | hk | hk | hk | hk | hk | hk <;> simp [layT, hk, e, this]
  · simp [layT, hk]
def raiseT (t : Tm) : Tm := .mk 8 [] 0 [t]
end Go.Proofs.YtddnigahjahkbaaGreatDoor
namespace Go.Proofs.YtddnigahjahkbaaGreatDoor
set_option linter.unusedVariables false
set_option linter.unusedSimpArgs false
set_option maxRecDepth 100000
open Go.RowKit Fw
end Go.Proofs.YtddnigahjahkbaaGreatDoor
namespace Go.Proofs.YtddnigahjahkbaaGreatDoor
set_option linter.unusedVariables false
set_option linter.unusedSimpArgs false
set_option maxRecDepth 100000
open Go.RowKit Fw
end Go.Proofs.YtddnigahjahkbaaGreatDoor
namespace Go.Proofs.YtddnigahjahkbaaGreatDoor
set_option linter.unusedVariables false
set_option linter.unusedSimpArgs false
set_option maxRecDepth 100000
open Go.RowKit Go.Shelf
def sorted34_ren : Go.Shelf.Ren := { f := fun x => match x with | 6 => 29 | 8 => 52 | 9 => 53 | 11 => 67 | 13 => 69 | 12 => 68 | 23 => 93 | 24 => 94 | 14 => 84 | 15 => 85 | 16 => 86 | 17 => 87 | 18 => 88 | 19 => 89 | 20 => 90 | 21 => 91 | 22 => 92 | 25 => 106 | 26 => 107 | 27 => 108 | 28 => 109 | 29 => 110 | 30 => 111 | 31 => 119 | n => n, t := fun x => match x with | 26 => 9 | 28 => 60 | 24 => 43 | 0 => 0 | 3 => 3 | 37 => 108 | 48 => 132 | 50 => 116 | 4 => 4 | 40 => 125 | 39 => 124 | 45 => 129 | 5 => 5 | 9 => 9 | 51 => 141 | 55 => 145 | 57 => 153 | 58 => 154 | 33 => 82 | n => n, g := fun x => have n := x; n }
theorem sorted34 : Go.Proofs.SlLaysZ.n6 Tryz.prog sorted34_ren where
  mixed := by kernel_rfl
  f6 := ⟨"slices.Sorted[string]", of_decide_eq_true (by kernel_rfl), Tryz.func29.trans (congrArg some (by kernel_rfl))⟩
  f8 := ⟨"slices.Collect[string]", of_decide_eq_true (by kernel_rfl), Tryz.func52.trans (congrArg some (by kernel_rfl))⟩
  f11 := ⟨"slices.AppendSeq[[]string,string]", of_decide_eq_true (by kernel_rfl), Tryz.func67.trans (congrArg some (by kernel_rfl))⟩
  t0 := Tryz.underlying0
  a0 := Tryz.isAgg0
  z0 := Tryz.sizeOf0
  v0 := Tryz.zeroValue0
  t24 := Tryz.underlying43
  a24 := Tryz.isAgg43
  z24 := Tryz.sizeOf43
  v24 := Tryz.zeroValue43
  t26 := Tryz.underlying9
  a26 := Tryz.isAgg9
  z26 := Tryz.sizeOf9
  v26 := Tryz.zeroValue9
  t28 := Tryz.underlying60
  a28 := Tryz.isAgg60
  z28 := Tryz.sizeOf60
  v28 := Tryz.zeroValue60
  i26 := by kernel_rfl
def keysit44_ren : Go.Shelf.Ren := { f := fun x => match x with | 10 => 54 | n => n, t := fun x => match x with | 33 => 82 | 23 => 56 | 0 => 0 | 4 => 4 | 26 => 9 | 3 => 3 | n => n, g := fun x => have n := x; n }
theorem keysit44 : Go.Proofs.SlLaysZ.n10 Tryz.prog keysit44_ren where
  mixed := by kernel_rfl
  f10 := ⟨"maps.Keys[map[string]int,string,int]$1", of_decide_eq_true (by kernel_rfl), Tryz.func54.trans (congrArg some (by kernel_rfl))⟩
  t0 := Tryz.underlying0
  a0 := Tryz.isAgg0
  z0 := Tryz.sizeOf0
  v0 := Tryz.zeroValue0
  t4 := Tryz.underlying4
  a4 := Tryz.isAgg4
  z4 := Tryz.sizeOf4
  v4 := Tryz.zeroValue4
  t23 := Tryz.underlying56
  a23 := Tryz.isAgg56
  z23 := Tryz.sizeOf56
  v23 := Tryz.zeroValue56
  t26 := Tryz.underlying9
  a26 := Tryz.isAgg9
  z26 := Tryz.sizeOf9
  v26 := Tryz.zeroValue9
  t33 := Tryz.underlying82
  a33 := Tryz.isAgg82
  z33 := Tryz.sizeOf82
  v33 := Tryz.zeroValue82
def sort43_ren : Go.Shelf.Ren := { f := fun x => match x with | 6 => 53 | 8 => 69 | 9 => 68 | 19 => 93 | 20 => 94 | 21 => 84 | 22 => 85 | 23 => 86 | 24 => 87 | 25 => 88 | 26 => 89 | 27 => 90 | 28 => 91 | 29 => 92 | 36 => 106 | 31 => 107 | 32 => 108 | 37 => 109 | 38 => 110 | 39 => 111 | 41 => 119 | n => n, t := fun x => match x with | 27 => 43 | 29 => 9 | 3 => 3 | 32 => 108 | 26 => 43 | 0 => 0 | 44 => 132 | 46 => 116 | 4 => 4 | 36 => 125 | 35 => 124 | 41 => 129 | 5 => 5 | 9 => 9 | 53 => 141 | 57 => 145 | 63 => 153 | 64 => 154 | n => n, g := fun x => have n := x; n }
theorem sort43 : Go.Proofs.SlLaysM.n6 Tryz.prog sort43_ren where
  mixed := by kernel_rfl
  f6 := ⟨"slices.Sort[[]string,string]", of_decide_eq_true (by kernel_rfl), Tryz.func53.trans (congrArg some (by kernel_rfl))⟩
  f8 := Tryz.func69.trans (congrArg some (by kernel_rfl))
  f9 := ⟨"slices.pdqsortOrdered[string]", of_decide_eq_true (by kernel_rfl), Tryz.func68.trans (congrArg some (by kernel_rfl))⟩
  f19 := Tryz.func93.trans (congrArg some (by kernel_rfl))
  f20 := Tryz.func94.trans (congrArg some (by kernel_rfl))
  f21 := ⟨"slices.insertionSortOrdered[string]", of_decide_eq_true (by kernel_rfl), Tryz.func84.trans (congrArg some (by kernel_rfl))⟩
  f22 := ⟨"slices.heapSortOrdered[string]", of_decide_eq_true (by kernel_rfl), Tryz.func85.trans (congrArg some (by kernel_rfl))⟩
  f23 := ⟨"slices.breakPatternsOrdered[string]", of_decide_eq_true (by kernel_rfl), Tryz.func86.trans (congrArg some (by kernel_rfl))⟩
  f24 := ⟨"slices.choosePivotOrdered[string]", of_decide_eq_true (by kernel_rfl), Tryz.func87.trans (congrArg some (by kernel_rfl))⟩
  f25 := ⟨"slices.reverseRangeOrdered[string]", of_decide_eq_true (by kernel_rfl), Tryz.func88.trans (congrArg some (by kernel_rfl))⟩
  f26 := ⟨"slices.partialInsertionSortOrdered[string]", of_decide_eq_true (by kernel_rfl), Tryz.func89.trans (congrArg some (by kernel_rfl))⟩
  f27 := ⟨"cmp.Less[string]", of_decide_eq_true (by kernel_rfl), Tryz.func90.trans (congrArg some (by kernel_rfl))⟩
  f28 := ⟨"slices.partitionEqualOrdered[string]", of_decide_eq_true (by kernel_rfl), Tryz.func91.trans (congrArg some (by kernel_rfl))⟩
  f29 := ⟨"slices.partitionOrdered[string]", of_decide_eq_true (by kernel_rfl), Tryz.func92.trans (congrArg some (by kernel_rfl))⟩
  f31 := Tryz.func107.trans (congrArg some (by kernel_rfl))
  f32 := Tryz.func108.trans (congrArg some (by kernel_rfl))
  f36 := ⟨"slices.siftDownOrdered[string]", of_decide_eq_true (by kernel_rfl), Tryz.func106.trans (congrArg some (by kernel_rfl))⟩
  f37 := ⟨"slices.medianAdjacentOrdered[string]", of_decide_eq_true (by kernel_rfl), Tryz.func109.trans (congrArg some (by kernel_rfl))⟩
  f38 := ⟨"slices.medianOrdered[string]", of_decide_eq_true (by kernel_rfl), Tryz.func110.trans (congrArg some (by kernel_rfl))⟩
  f39 := ⟨"cmp.isNaN[string]", of_decide_eq_true (by kernel_rfl), Tryz.func111.trans (congrArg some (by kernel_rfl))⟩
  f41 := ⟨"slices.order2Ordered[string]", of_decide_eq_true (by kernel_rfl), Tryz.func119.trans (congrArg some (by kernel_rfl))⟩
  t0 := Tryz.underlying0
  a0 := Tryz.isAgg0
  z0 := Tryz.sizeOf0
  v0 := Tryz.zeroValue0
  t3 := Tryz.underlying3
  a3 := Tryz.isAgg3
  z3 := Tryz.sizeOf3
  v3 := Tryz.zeroValue3
  t4 := Tryz.underlying4
  a4 := Tryz.isAgg4
  z4 := Tryz.sizeOf4
  v4 := Tryz.zeroValue4
  t5 := Tryz.underlying5
  a5 := Tryz.isAgg5
  z5 := Tryz.sizeOf5
  v5 := Tryz.zeroValue5
  t9 := Tryz.underlying9
  a9 := Tryz.isAgg9
  z9 := Tryz.sizeOf9
  v9 := Tryz.zeroValue9
  t26 := Tryz.underlying43
  a26 := Tryz.isAgg43
  z26 := Tryz.sizeOf43
  v26 := Tryz.zeroValue43
  t27 := Tryz.underlying43
  a27 := Tryz.isAgg43
  z27 := Tryz.sizeOf43
  v27 := Tryz.zeroValue43
  t29 := Tryz.underlying9
  a29 := Tryz.isAgg9
  z29 := Tryz.sizeOf9
  v29 := Tryz.zeroValue9
  t32 := Tryz.underlying108
  a32 := Tryz.isAgg108
  z32 := Tryz.sizeOf108
  v32 := Tryz.zeroValue108
  t35 := Tryz.underlying124
  a35 := Tryz.isAgg124
  z35 := Tryz.sizeOf124
  v35 := Tryz.zeroValue124
  t36 := Tryz.underlying125
  a36 := Tryz.isAgg125
  z36 := Tryz.sizeOf125
  v36 := Tryz.zeroValue125
  t41 := Tryz.underlying129
  a41 := Tryz.isAgg129
  z41 := Tryz.sizeOf129
  v41 := Tryz.zeroValue129
  t44 := Tryz.underlying132
  a44 := Tryz.isAgg132
  z44 := Tryz.sizeOf132
  v44 := Tryz.zeroValue132
  t46 := Tryz.underlying116
  a46 := Tryz.isAgg116
  z46 := Tryz.sizeOf116
  v46 := Tryz.zeroValue116
  t53 := Tryz.underlying141
  a53 := Tryz.isAgg141
  z53 := Tryz.sizeOf141
  v53 := Tryz.zeroValue141
  t57 := Tryz.underlying145
  a57 := Tryz.isAgg145
  z57 := Tryz.sizeOf145
  v57 := Tryz.zeroValue145
  t63 := Tryz.underlying153
  a63 := Tryz.isAgg153
  z63 := Tryz.sizeOf153
  v63 := Tryz.zeroValue153
  t64 := Tryz.underlying154
  a64 := Tryz.isAgg154
  z64 := Tryz.sizeOf154
  v64 := Tryz.zeroValue154
end Go.Proofs.YtddnigahjahkbaaGreatDoor
namespace Go.Proofs.YtddnigahjahkbaaGreatDoor
set_option linter.unusedVariables false
set_option linter.unusedSimpArgs false
set_option maxRecDepth 100000
open Go.RowKit Go.Shelf Fw Go.Maps Go.Sort
theorem sortsIn (m : Nat) : AnyZ.SortsIn Tryz.prog sorted34_ren Fence.wide m :=
  ⟨fun blk off cap ss W hH hblk hsz => callsIn_wide.2 (AnyM.slices_Sort_string sort43 blk off cap ss W hH hblk hsz),
  fun p cap W => callsIn_wide.2 (AnyM.slices_Sort_string_none sort43 p cap W)⟩
def anyVal : Value → Option (DataW Unit × List MemPlace) := fun _ => some (.lit (.bool true), [])
theorem keys_insert (l : List (Lit × DataW Unit)) : (l.foldr DataW.insert []).Perm l := by
  induction l with
  | nil => exact .refl _
  | cons x l ih => exact (Go.WideShapes.insert_perm x _).trans (ih.cons x)
theorem c29 (Γ : Nat → PV) (H : List Blk) (b1 b2 : Nat) (es : List (PV × PV)) (ks : List (List UInt8)) (h1 : H[b1]? = some (.box [.map b2])) (h2 : H[b2]? = some (.map es)) (hk : es.map Prod.fst = ks.map .str) (hnd : ks.Nodup) (hlen : ks.length ≤ 1000000000000) :
    ACalls Tryz.prog Γ 29 [.func (.func 54) [] [.ptr b1 0]] H (fun p H' => p = .vec ((ks.mergeSort leB).map fun s => [.str s]) false ∧ H' = H) := by
  intro w0 G w us hs hr
  obtain ⟨l⟩ := us
  obtain ⟨v, vs, rfl, r1, r2⟩ := hr.cons_inv
  have : vs = [] := by have := r2.1; simpa using this.symm
  subst this
  -- the argument
  obtain ⟨hrow, C, e, hh, hC, hone⟩ := hs.blk b1 _ h1
  obtain ⟨hrow2, E, clock, hh2, hE1, hE2, hE3, hE4⟩ := hs.blk b2 _ h2
  have hv : v = .func (.func 54) #[] #[.pointer (some ⟨(G.info b1).blk, 0, none⟩)] := by
    cases r1 with
    | func _ _ _ _ fs' cs' e1 e2 e3 e4 =>
      have hf : fs' = #[] := by have := e1; simp at this; exact Array.eq_empty_of_size_eq_zero this.symm
      obtain ⟨cl⟩ := cs'
      match cl, e2, e4 with
      | [c], _, e4 =>
        have := e4 0 (.ptr b1 0) c rfl rfl
        cases this
        rw [hf]
  subst hv
  have hcell : w.cell? ⟨(G.info b1).blk, 0, none⟩ = some (.map (some (G.info b2).blk)) := by
    obtain ⟨cl⟩ := C
    obtain ⟨u, us, hu, q1, q2⟩ := hC.cons_inv
    have : us = [] := by have := q2.1; simpa using this.symm
    subst this
    simp only at hu
    subst hu
    cases q1
    simp [World.cell?, hh]
  -- the map's entries
  have hesl : es.length = ks.length := by have := congrArg List.length hk; simpa using this
  have hkey : ∀ (j : Nat) x, E[j]? = some x → ∃ s, ks[j]? = some s ∧ x.key = .string ⟨s.toArray⟩ := fun j x hx => by
    have hj : j < es.length := by have := (Array.getElem?_eq_some_iff.1 hx).1; omega
    have hkj : (es.map Prod.fst)[j]? = (ks.map PV.str)[j]? := by rw [hk]
    rw [List.getElem?_map, List.getElem?_map, List.getElem?_eq_getElem hj, List.getElem?_eq_getElem (by omega)] at hkj
    simp only [Option.map_some, Option.some.injEq] at hkj
    have := (hE2 j es[j].1 es[j].2 x (List.getElem?_eq_getElem hj) hx).1
    rw [hkj] at this
    exact ⟨ks[j]'(by omega), List.getElem?_eq_getElem (by omega), this.str_inv⟩
  have hkl : ∀ k ∈ ks, k.length ≤ 9223372036854775807 := fun k hk' => by
    obtain ⟨j, hj, rfl⟩ := List.mem_iff_getElem.1 hk'
    have hkj : (es.map Prod.fst)[j]? = (ks.map PV.str)[j]? := by rw [hk]
    rw [List.getElem?_map, List.getElem?_map, List.getElem?_eq_getElem (show j < es.length by omega), List.getElem?_eq_getElem hj] at hkj
    simp only [Option.map_some, Option.some.injEq] at hkj
    have := (hE2 j (es[j]'(by omega)).1 (es[j]'(by omega)).2 (E[j]'(by omega)) (List.getElem?_eq_getElem _) (Array.getElem?_eq_getElem _)).1
    rw [hkj] at this
    exact this.str_len
  have hkeys : E.toList.map (·.key) = ks.map encStr := by
    refine List.ext_getElem? fun j => ?_
    rw [List.getElem?_map, List.getElem?_map, Array.getElem?_toList]
    cases hx : E[j]? with
    | none =>
      have : ks.length ≤ j := by have := Array.getElem?_eq_none_iff.1 hx; omega
      rw [List.getElem?_eq_none this]; rfl
    | some x =>
      obtain ⟨s, g1, g2⟩ := hkey j x hx
      rw [g1, Option.map_some, Option.map_some, g2]
  have hrd : ∀ x ∈ E.toList, ∃ s, s ∈ ks ∧ x.key = encStr s ∧ Go.WideElems.rd Tryz.prog 9 anyVal x = some (.string s, .lit (.bool true)) := fun x hx => by
    obtain ⟨j, hj, rfl⟩ := List.mem_iff_getElem.1 hx
    obtain ⟨s, g1, g2⟩ := hkey j (E.toList[j]) (by rw [← Array.getElem?_toList]; exact List.getElem?_eq_getElem hj)
    refine ⟨s, List.mem_of_getElem? g1, g2, ?_⟩
    have hsz : (⟨s.toArray⟩ : ByteArray).size ≤ maxLen := by
      have := hkl s (List.mem_of_getElem? g1)
      show s.toArray.size ≤ _
      unfold maxLen; simpa using this
    have := Go.WideMaps.keyOf_string_mk (P := Tryz.prog) (k := 9) un9 hsz
    unfold Go.WideElems.rd
    rw [g2, show (Value.string ⟨s.toArray⟩) = .string (⟨s.toArray⟩ : ByteArray) from rfl, this]
    rfl
  have hown : w.ownsMap Tryz.prog 9 anyVal (G.info b2).blk E.size (.map ((E.toList.map (Go.WideElems.rg Tryz.prog 9 anyVal)).foldr DataW.insert [])) :=
    ⟨E, clock, hh2, ⟨by unfold maxLen; omega, ⟨fun x hx => by
        obtain ⟨j, hj, rfl⟩ := List.mem_iff_getElem.1 hx
        exact hE3 j _ (by rw [← Array.getElem?_toList]; exact List.getElem?_eq_getElem hj), by
        refine List.pairwise_iff_getElem.2 fun i j hi hj hij e => ?_
        rw [List.length_map] at hi hj
        rw [List.getElem_map, List.getElem_map] at e
        have := hE4 i j _ _ (by rw [← Array.getElem?_toList]; exact List.getElem?_eq_getElem hi) (by rw [← Array.getElem?_toList]; exact List.getElem?_eq_getElem hj) e
        omega, by
        rw [hkeys]
        exact List.pairwise_map.2 (hnd.imp fun {a b} h e => h (encStr_inj e))⟩, fun x hx => by
        obtain ⟨s, _, _, g⟩ := hrd x hx
        exact ⟨_, g⟩⟩, Nat.le_refl _, rfl⟩
  have hperm : (strKeys (.map ((E.toList.map (Go.WideElems.rg Tryz.prog 9 anyVal)).foldr DataW.insert []))).Perm ks := by
    show (List.map (fun p : Lit × DataW Unit => strOf p.1) _).Perm ks
    refine ((keys_insert _).map _).trans ?_
    rw [List.map_map]
    have : E.toList.map ((fun p : Lit × DataW Unit => strOf p.1) ∘ Go.WideElems.rg Tryz.prog 9 anyVal) = ks := by
      have h3 : (E.toList.map ((fun p : Lit × DataW Unit => strOf p.1) ∘ Go.WideElems.rg Tryz.prog 9 anyVal)).map encStr = ks.map encStr := by
        rw [← hkeys, List.map_map]
        refine List.map_congr_left fun x hx => ?_
        obtain ⟨s, _, g2, g3⟩ := hrd x hx
        show encStr (strOf (Go.WideElems.rg Tryz.prog 9 anyVal x).1) = x.key
        rw [Go.WideElems.rg_of g3, g2]; rfl
      exact (List.map_inj_right (fun a b h => encStr_inj h)).1 h3
    rw [this]
  have hsize : Maps.size (DataW.map ((E.toList.map (Go.WideElems.rg Tryz.prog 9 anyVal)).foldr DataW.insert [])) = ks.length := by
    show List.length _ = _
    rw [(keys_insert _).length_eq, List.length_map, Array.length_toList]; omega
  have hseq : SeqGives Fence.wide 2 Tryz.prog 54 #[.pointer (some ⟨(G.info b1).blk, 0, none⟩)] encStr (fun ss => ss.Perm (strKeys (.map ((E.toList.map (Go.WideElems.rg Tryz.prog 9 anyVal)).foldr DataW.insert [])))) (Maps.size (DataW.map ((E.toList.map (Go.WideElems.rg Tryz.prog 9 anyVal)).foldr DataW.insert []))) w :=
    AnyZ.keys_gives (ρ := keysit44_ren) keysit44 Fence.wide _ trivial rfl (by omega) _ _ _ _ _ (hs.own b1 _ h1 rfl).2.1 hcell hown
  refine callsIn_wide.2 (callsIn_wide.1 ((AnyZ.sorted_in sorted34 Fence.wide 5 trivial trivial trivial trivial rfl (by omega) (sortsIn _) (enters_of Tryz.func53 (by kernel_rfl) rfl) 54 #[.pointer (some ⟨(G.info b1).blk, 0, none⟩)] trivial (enters_of Tryz.func54 (by kernel_rfl) rfl) _ _ (by rw [hsize]; unfold maxLen; omega) (by rw [hsize]; omega) _ hseq).mono fun e w' hq => ?_))
  obtain ⟨u, ss, rfl, hS, ho, _, hb⟩ := hq
  have hms : ss.mergeSort (fun x y => decide (x ≤ y)) = ks.mergeSort leB := mergeSort_of_perm (hS.trans hperm)
  rw [hms, ← (show (ks.mergeSort leB).length = ss.length by rw [List.length_mergeSort, (hS.trans hperm).length_eq])] at ho
  obtain ⟨G', g1, g2, g3⟩ := hs.newOwn (encP := fun s => PV.str s) hb ho (Nat.le_refl _) (fun x hx G => .str _ _ (hkl x (by rwa [List.mem_mergeSort] at hx))) (fun _ => rfl)
  exact ⟨u, _, H, G', rfl, g1, g3 _, g2, Nat.le_refl _, rfl, rfl⟩
end Go.Proofs.YtddnigahjahkbaaGreatDoor
namespace Go.Proofs.YtddnigahjahkbaaGreatDoor
set_option linter.unusedVariables false
set_option linter.unusedSimpArgs false
set_option maxRecDepth 100000
open Go.RowKit Fw Go.Maps Go.Sort
theorem mem_addT {l : List (List UInt8)} {x s : List UInt8} : s ∈ addT l x ↔ s = x ∨ s ∈ l := by
  induction l with
  | nil => simp [addT]
  | cons y l ih =>
    unfold addT
    split
    · rw [List.mem_cons, ih, List.mem_cons]
      constructor
      · rintro (h | h | h)
        · exact .inr (.inl h)
        · exact .inl h
        · exact .inr (.inr h)
      · rintro (h | h | h)
        · exact .inr (.inl h)
        · exact .inl h
        · exact .inr (.inr h)
    · split
      · rename_i e
        subst e
        rw [List.mem_cons]
        exact ⟨fun h => .inr h, fun h => h.elim .inl id⟩
      · rw [List.mem_cons]
theorem mem_addTs {b : Bool} {nm s : List UInt8} : ∀ {l out : List (List UInt8)}, s ∈ addTs out b nm l ↔ s ∈ out ∨ s ∈ l ∧ ¬ (b = true ∧ s = nm)
  | [], out => by unfold addTs; simp
  | x :: l, out => by
    unfold addTs
    rw [mem_addTs (l := l)]
    by_cases h : (!b || !decide (x = nm)) = true
    · rw [if_pos h, mem_addT]
      have hx : ¬ (b = true ∧ x = nm) := by
        rintro ⟨h1, h2⟩
        subst h1 h2
        simp at h
      constructor
      · rintro ((rfl | h1) | ⟨h1, h2⟩)
        · exact .inr ⟨List.mem_cons_self .., hx⟩
        · exact .inl h1
        · exact .inr ⟨List.mem_cons_of_mem _ h1, h2⟩
      · rintro (h1 | ⟨h1, h2⟩)
        · exact .inl (.inr h1)
        · rcases List.mem_cons.1 h1 with rfl | h1
          · exact .inl (.inl rfl)
          · exact .inr ⟨h1, h2⟩
    · rw [if_neg h]
      have hb : b = true ∧ x = nm := by
        cases b with
        | false => simp at h
        | true => exact ⟨rfl, by simpa using h⟩
      constructor
      · rintro (h1 | ⟨h1, h2⟩)
        · exact .inl h1
        · exact .inr ⟨List.mem_cons_of_mem _ h1, h2⟩
      · rintro (h1 | ⟨h1, h2⟩)
        · exact .inl h1
        · rcases List.mem_cons.1 h1 with rfl | h1
          · exact absurd hb h2
          · exact .inr ⟨h1, h2⟩
theorem mem_frees {b : Bool} {nm s : List UInt8} : ∀ {ks : List Tm} {out : List (List UInt8)}, s ∈ Tm.frees ks out b nm ↔ s ∈ out ∨ ∃ (i : Nat) (k : Tm), ks[i]? = some k ∧ s ∈ k.free ∧ ¬ (b = true ∧ i + 1 = ks.length ∧ s = nm)
  | [], out => by unfold Tm.frees; simp
  | t :: ts, out => by
    unfold Tm.frees
    rw [mem_frees (ks := ts), mem_addTs]
    have he : ts.isEmpty = true ↔ ts.length = 0 := by cases ts <;> simp
    constructor
    · rintro ((h | ⟨h1, h2⟩) | ⟨i, k, h1, h2, h3⟩)
      · exact .inl h
      · refine .inr ⟨0, t, rfl, h1, fun ⟨a, c, d⟩ => h2 ⟨?_, d⟩⟩
        rw [a, Bool.true_and]; exact he.2 (by rw [List.length_cons] at c; omega)
      · exact .inr ⟨i + 1, k, by simpa using h1, h2, fun ⟨a, c, d⟩ => h3 ⟨a, by rw [List.length_cons] at c; omega, d⟩⟩
    · rintro (h | ⟨i, k, h1, h2, h3⟩)
      · exact .inl (.inl h)
      · cases i with
        | zero =>
          simp only [List.getElem?_cons_zero, Option.some.injEq] at h1
          subst h1
          refine .inl (.inr ⟨h2, fun ⟨a, d⟩ => h3 ?_⟩)
          rw [Bool.and_eq_true] at a
          exact ⟨a.1, by rw [List.length_cons, he.1 a.2], d⟩
        | succ i => exact .inr ⟨i, k, by simpa using h1, h2, fun ⟨a, c, d⟩ => h3 ⟨a, by rw [List.length_cons]; omega, d⟩⟩
theorem mem_free {t : Tm} {s : List UInt8} : s ∈ t.free ↔ (t.kind = 2 ∧ s = t.name) ∨ ∃ (i : Nat) (k : Tm), t.kids[i]? = some k ∧ s ∈ k.free ∧ ¬ (t.binder = true ∧ i + 1 = t.kids.length ∧ s = t.name) := by
  rw [Tm.free_eq, mem_frees]
  refine or_congr ?_ Iff.rfl
  split
  · rename_i h; simp [h]
  · rename_i h; simp [h]
abbrev Rising (l : List (List UInt8)) : Prop := l.Pairwise (· < ·)
theorem rising_addT {l : List (List UInt8)} (h : Rising l) (x : List UInt8) : Rising (addT l x) := by
  induction l with
  | nil => exact List.pairwise_singleton _ _
  | cons y l ih =>
    obtain ⟨h1, h2⟩ := List.pairwise_cons.1 h
    unfold addT
    split
    · rename_i hlt
      refine List.pairwise_cons.2 ⟨fun z hz => ?_, ih h2⟩
      rcases mem_addT.1 hz with rfl | hz
      · exact hlt
      · exact h1 z hz
    · split
      · exact h
      · rename_i hn hne
        have hxy : x < y := by
          rcases List.le_iff_lt_or_eq.1 (List.not_lt.1 hn) with h | h
          · exact h
          · exact absurd h.symm hne
        refine List.pairwise_cons.2 ⟨fun z hz => ?_, h⟩
        rcases List.mem_cons.1 hz with rfl | hz
        · exact hxy
        · exact List.lt_trans hxy (h1 z hz)
theorem rising_addTs {b : Bool} {nm : List UInt8} : ∀ {l out : List (List UInt8)}, Rising out → Rising (addTs out b nm l)
  | [], _, h => by unfold addTs; exact h
  | x :: l, out, h => by
    unfold addTs
    refine rising_addTs ?_
    split
    · exact rising_addT h x
    · exact h
theorem rising_frees {b : Bool} {nm : List UInt8} : ∀ {ks : List Tm} {out : List (List UInt8)}, Rising out → Rising (Tm.frees ks out b nm)
  | [], _, h => by unfold Tm.frees; exact h
  | t :: ts, out, h => by unfold Tm.frees; exact rising_frees (rising_addTs h)
theorem rising_free (t : Tm) : Rising t.free := by
  rw [Tm.free_eq]
  refine rising_frees ?_
  split
  · exact List.pairwise_singleton _ _
  · exact List.Pairwise.nil
theorem rising_nodup {l : List (List UInt8)} (h : Rising l) : l.Nodup :=
  List.Pairwise.imp (S := fun a b : List UInt8 => a ≠ b) (fun {a b} (hlt : a < b) (e : a = b) => by subst e; exact List.lt_irrefl _ hlt) h
theorem sorted_is {ks l : List (List UInt8)} (hn : ks.Nodup) (hl : Rising l) (h : ∀ s, s ∈ ks ↔ s ∈ l) : ks.mergeSort leB = l := by
  have hp : ks.Perm l := (List.perm_ext_iff_of_nodup hn (rising_nodup hl)).2 h
  rw [mergeSort_of_perm hp]
  exact List.mergeSort_of_pairwise (hl.imp fun {a b} h => decide_eq_true (List.le_of_lt h))
def mp (ks : List (List UInt8)) (f : List UInt8 → Int) : List (PV × PV) := ks.map fun k => (.str k, .int .i64 (f k))
def updF (f : List UInt8 → Int) (k : List UInt8) (v : Int) : List UInt8 → Int := fun x => if x = k then v else f x
def insK (ks : List (List UInt8)) (k : List UInt8) : List (List UInt8) := if k ∈ ks then ks else ks ++ [k]
theorem insK_mem {ks : List (List UInt8)} {k s : List UInt8} : s ∈ insK ks k ↔ s = k ∨ s ∈ ks := by
  unfold insK
  split
  · rename_i h; exact ⟨.inr, fun e => e.elim (fun e => e ▸ h) id⟩
  · rw [List.mem_append, List.mem_singleton, Or.comm]
theorem insK_nodup {ks : List (List UInt8)} {k : List UInt8} (h : ks.Nodup) : (insK ks k).Nodup := by
  unfold insK
  split
  · exact h
  · rename_i hn
    refine List.nodup_append.2 ⟨h, List.pairwise_singleton _ _, fun a ha b hb e => ?_⟩
    rw [List.mem_singleton] at hb
    exact hn (hb ▸ e ▸ ha)
theorem insK_len (ks : List (List UInt8)) (k : List UInt8) : (insK ks k).length ≤ ks.length + 1 := by
  unfold insK
  split
  · omega
  · rw [List.length_append]; exact Nat.le_refl _
theorem updF_back (f : List UInt8 → Int) (k : List UInt8) (v : Int) : updF (updF f k v) k (f k) = f := by
  funext x
  unfold updF
  by_cases h : x = k
  · rw [if_pos h, h]
  · rw [if_neg h, if_neg h]
theorem updF_same (f : List UInt8 → Int) (k : List UInt8) (v : Int) : updF f k v k = v := if_pos rfl
theorem updF_other (f : List UInt8 → Int) {k x : List UInt8} (v : Int) (h : x ≠ k) : updF f k v x = f x := if_neg h
theorem mfind_mp (f : List UInt8 → Int) (k : List UInt8) : ∀ (ks : List (List UInt8)) (i : Nat), mfind (.str k) (mp ks f) i = some (match ks.findIdx? (fun x => decide (k = x)) with
    | none => none
    | some j => some (i + j, .int .i64 (f (ks.getD j []))))
  | [], i => rfl
  | x :: ks, i => by
    show mfind (.str k) ((.str x, .int .i64 (f x)) :: mp ks f) i = _
    unfold mfind
    rw [List.findIdx?_cons]
    by_cases h : k = x
    · simp only [keyEq, h, decide_true, ↓reduceIte]; rfl
    · simp only [keyEq, h, decide_false, Bool.false_eq_true, ↓reduceIte]
      rw [mfind_mp f k ks (i + 1)]
      cases ks.findIdx? (fun x => decide (k = x)) with
      | none => rfl
      | some j => simp only [Option.map_some]; rw [show i + 1 + j = i + (j + 1) by omega]; rfl
theorem look_mp {ks : List (List UInt8)} {f : List UInt8 → Int} (k : List UInt8) (hn : ks.Nodup) (h0 : ∀ s, ¬ s ∈ ks → f s = 0) :
    ∃ r, mfind (.str k) (mp ks f) 0 = some r ∧ gotOr r (.int .i64 0) = .int .i64 (f k) ∧ ∀ v, mput (mp ks f) (.str k) (.int .i64 v) r = mp (insK ks k) (updF f k v) := by
  refine ⟨_, mfind_mp f k ks 0, ?_⟩
  cases h : ks.findIdx? (fun x => decide (k = x)) with
  | none =>
    rw [List.findIdx?_eq_none_iff] at h
    have hk : ¬ k ∈ ks := fun hm => by simpa using h k hm
    refine ⟨by show PV.int .i64 0 = _; rw [h0 k hk], fun v => ?_⟩
    show mp ks f ++ [_] = _
    unfold insK mp
    rw [if_neg hk, List.map_append, List.map_singleton, updF_same]
    congr 1
    refine List.map_congr_left fun x hx => ?_
    have hx' : x ≠ k := fun e => by subst e; exact hk hx
    rw [updF_other _ _ hx']
  | some j =>
    obtain ⟨hj, h2, _⟩ := List.findIdx?_eq_some_iff_getElem.1 h
    have e : ks[j] = k := by simpa using (of_decide_eq_true h2).symm
    have hk : k ∈ ks := e ▸ List.getElem_mem hj
    refine ⟨by show PV.int .i64 (f (ks.getD j [])) = _; rw [List.getD_eq_getElem?_getD, List.getElem?_eq_getElem hj]; show PV.int .i64 (f ks[j]) = _; rw [e], fun v => ?_⟩
    show (mp ks f).set (0 + j) _ = _
    unfold insK mp
    rw [if_pos hk, Nat.zero_add]
    refine List.ext_getElem? fun i => ?_
    by_cases hij : j = i
    · subst hij
      rw [List.getElem?_set_self (by rw [List.length_map]; exact hj), List.getElem?_map, List.getElem?_eq_getElem hj, Option.map_some, e, updF_same]
    · rw [List.getElem?_set_ne hij, List.getElem?_map, List.getElem?_map]
      cases hi : ks[i]? with
      | none => rfl
      | some x =>
        have hx : x ≠ k := fun hx => by
          exact hij ((List.getElem?_inj hj hn).1 (by rw [hi, hx, List.getElem?_eq_getElem hj, e]))
        simp only [Option.map_some, updF_other _ _ hx]
def stH (H : List Blk) (mb mm : Nat) (kb : List (List UInt8)) (f : List UInt8 → Int) (km : List (List UInt8)) (g : List UInt8 → Int) : List Blk := (H.set mb (.map (mp kb f))).set mm (.map (mp km g))
section
variable {H : List Blk} {mb mm : Nat} {kb km : List (List UInt8)} {f g : List UInt8 → Int}
theorem stH_len : (stH H mb mm kb f km g).length = H.length := by unfold stH; rw [List.length_set, List.length_set]
theorem stH_at {b : Nat} (h1 : b ≠ mb) (h2 : b ≠ mm) : (stH H mb mm kb f km g)[b]? = H[b]? := by unfold stH; rw [List.getElem?_set_ne (Ne.symm h2), List.getElem?_set_ne (Ne.symm h1)]
theorem stH_mb (h : mb < H.length) (hne : mb ≠ mm) : (stH H mb mm kb f km g)[mb]? = some (.map (mp kb f)) := by unfold stH; rw [List.getElem?_set_ne (Ne.symm hne), List.getElem?_set_self h]
theorem stH_mm (h : mm < H.length) : (stH H mb mm kb f km g)[mm]? = some (.map (mp km g)) := by unfold stH; rw [List.getElem?_set_self (by rw [List.length_set]; exact h)]
theorem stH_setb (hne : mb ≠ mm) (kb' : List (List UInt8)) (f' : List UInt8 → Int) : (stH H mb mm kb f km g).set mb (.map (mp kb' f')) = stH H mb mm kb' f' km g := by
  unfold stH; rw [List.set_comm _ _ (Ne.symm hne), List.set_set]
theorem stH_setm (km' : List (List UInt8)) (g' : List UInt8 → Int) : (stH H mb mm kb f km g).set mm (.map (mp km' g')) = stH H mb mm kb f km' g' := by
  unfold stH; rw [List.set_set]
theorem stH_app (h1 : mb < H.length) (h2 : mm < H.length) (L : List Blk) : stH H mb mm kb f km g ++ L = stH (H ++ L) mb mm kb f km g := by
  unfold stH; rw [List.set_append_left _ _ h1, List.set_append_left _ _ (by rw [List.length_set]; exact h2)]
theorem stH_stH (hne : mb ≠ mm) (kb' km' : List (List UInt8)) (f' g' : List UInt8 → Int) : stH (stH H mb mm kb f km g) mb mm kb' f' km' g' = stH H mb mm kb' f' km' g' := by
  show ((stH H mb mm kb f km g).set mb _).set mm _ = _
  rw [stH_setb hne, stH_setm]
theorem mp_bd (n : Nat) (ks : List (List UInt8)) (f : List UInt8 → Int) : (Blk.map (mp ks f)).bd n = true := by
  simp [Blk.bd, mp, PV.bd]
theorem stH_bd (h : ∀ B ∈ H, B.bd H.length = true) : ∀ B ∈ stH H mb mm kb f km g, B.bd (stH H mb mm kb f km g).length = true := fun B hB => by
  rw [stH_len]
  unfold stH at hB
  rcases List.mem_or_eq_of_mem_set hB with hB | rfl
  · rcases List.mem_or_eq_of_mem_set hB with hB | rfl
    · exact h B hB
    · exact mp_bd _ _ _
  · exact mp_bd _ _ _
theorem stH_bd2 (hne : mb ≠ mm) (h : ∀ B ∈ stH H mb mm kb f km g, B.bd (stH H mb mm kb f km g).length = true) (kb' km' : List (List UInt8)) (f' g' : List UInt8 → Int) :
    ∀ B ∈ stH H mb mm kb' f' km' g', B.bd (stH H mb mm kb' f' km' g').length = true := by
  rw [← stH_stH hne kb' km' f' g']
  exact stH_bd h
end
end Go.Proofs.YtddnigahjahkbaaGreatDoor
