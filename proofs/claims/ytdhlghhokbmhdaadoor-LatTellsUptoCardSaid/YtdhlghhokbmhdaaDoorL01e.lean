/- Plain laws of words: how many bits are set. -/
import Derived.Test.YtdhlghhokbmhdaaDoorL01d
namespace Go.Proofs.YtdhlghhokbmhdaaDoor
set_option linter.unusedVariables false
set_option linter.unusedSimpArgs false
set_option maxRecDepth 100000
open Go
/-- Bytes as a number, the lowest first. -/
def ofB : List Nat → Nat
  | [] => 0
  | b :: l => ofB l * 256 + b
theorem ofB_lt : ∀ l : List Nat, (∀ b ∈ l, b < 256) → ofB l < 256 ^ l.length
  | [], _ => by simp [ofB]
  | b :: l, h => by
    have h1 := ofB_lt l fun x hx => h x (by simp [hx])
    have h2 := h b (by simp)
    rw [List.length_cons, Nat.pow_succ]
    unfold ofB; omega
theorem ofB_ex : ∀ (n x : Nat), x < 256 ^ n → ∃ l : List Nat, l.length = n ∧ (∀ b ∈ l, b < 256) ∧ ofB l = x
  | 0, x, h => ⟨[], rfl, (fun b hb => by cases hb), (by simp at h; simp [ofB, h])⟩
  | n + 1, x, h => by
    obtain ⟨l, h1, h2, h3⟩ := ofB_ex n (x / 256) (by rw [Nat.pow_succ] at h; omega)
    refine ⟨x % 256 :: l, by simp [h1], fun b hb => ?_, by unfold ofB; rw [h3]; omega⟩
    rcases List.mem_cons.1 hb with rfl | hb
    · omega
    · exact h2 b hb
theorem and_split (a c : Nat) {b d : Nat} (hb : b < 256) (hd : d < 256) : (a * 256 + b) &&& (c * 256 + d) = (a &&& c) * 256 + (b &&& d) := by
  have e : ∀ u v : Nat, u * 256 + v = 2 ^ 8 * u + v := fun u v => by omega
  have hbd : b &&& d < 2 ^ 8 := Nat.lt_of_le_of_lt Nat.and_le_left hb
  refine Nat.eq_of_testBit_eq fun j => ?_
  rw [e, e, e, Nat.testBit_and, Nat.testBit_two_pow_mul_add _ hb, Nat.testBit_two_pow_mul_add _ hd, Nat.testBit_two_pow_mul_add _ hbd]
  split
  · rw [Nat.testBit_and]
  · rw [Nat.testBit_and]
def g1 (b : Nat) : Nat := (b / 2 &&& 85) + (b &&& 85)
def g2 (b : Nat) : Nat := (b / 4 &&& 51) + (b &&& 51)
def g3 (b : Nat) : Nat := (b / 16 + b) &&& 15
theorem fin1 : ∀ e : Fin 2, ∀ b : Fin 256, (e.val * 128 + b.val / 2) &&& 85 = b.val / 2 &&& 85 := by decide +kernel
theorem fin2 : ∀ e : Fin 4, ∀ b : Fin 256, (e.val * 64 + b.val / 4) &&& 51 = b.val / 4 &&& 51 := by decide +kernel
theorem fin3 : ∀ e : Fin 5, ∀ b : Fin 69, (e.val * 16 + (b.val / 16 + b.val)) &&& 15 = (b.val / 16 + b.val) &&& 15 := by decide +kernel
theorem fing : ∀ b : Fin 256, g1 b.val < 256 ∧ g2 (g1 b.val) ≤ 68 ∧ g2 (g1 b.val) % 16 ≤ 4 ∧ g3 (g2 (g1 b.val)) = ((List.range 8).filter b.val.testBit).length := by decide +kernel
theorem f1_ofB : ∀ l : List Nat, (∀ b ∈ l, b < 256) → (ofB l / 2 &&& ofB (List.replicate l.length 85)) + (ofB l &&& ofB (List.replicate l.length 85)) = ofB (l.map g1)
  | [], _ => rfl
  | b :: l, h => by
    have ih := f1_ofB l fun x hx => h x (by simp [hx])
    have hb := h b (by simp)
    simp only [List.length_cons, List.replicate_succ, List.map_cons, ofB]
    have e : (ofB l * 256 + b) / 2 = ofB l / 2 * 256 + (ofB l % 2 * 128 + b / 2) := by omega
    rw [e, and_split _ _ (by omega) (by decide), and_split _ _ hb (by decide), fin1 ⟨ofB l % 2, by omega⟩ ⟨b, hb⟩, ← ih]
    show _ = _ * 256 + ((b / 2 &&& 85) + (b &&& 85))
    simp only; omega
theorem f2_ofB : ∀ l : List Nat, (∀ b ∈ l, b < 256) → (ofB l / 4 &&& ofB (List.replicate l.length 51)) + (ofB l &&& ofB (List.replicate l.length 51)) = ofB (l.map g2)
  | [], _ => rfl
  | b :: l, h => by
    have ih := f2_ofB l fun x hx => h x (by simp [hx])
    have hb := h b (by simp)
    simp only [List.length_cons, List.replicate_succ, List.map_cons, ofB]
    have e : (ofB l * 256 + b) / 4 = ofB l / 4 * 256 + (ofB l % 4 * 64 + b / 4) := by omega
    rw [e, and_split _ _ (by omega) (by decide), and_split _ _ hb (by decide), fin2 ⟨ofB l % 4, by omega⟩ ⟨b, hb⟩, ← ih]
    show _ = _ * 256 + ((b / 4 &&& 51) + (b &&& 51))
    simp only; omega
theorem low_ofB : ∀ l : List Nat, (∀ b ∈ l, b ≤ 68 ∧ b % 16 ≤ 4) → ofB l % 16 ≤ 4
  | [], _ => by simp [ofB]
  | b :: l, h => by
    have := (h b (by simp)).2
    unfold ofB; omega
theorem f3_ofB : ∀ l : List Nat, (∀ b ∈ l, b ≤ 68 ∧ b % 16 ≤ 4) → (ofB l / 16 + ofB l) &&& ofB (List.replicate l.length 15) = ofB (l.map g3)
  | [], _ => rfl
  | b :: l, h => by
    have ih := f3_ofB l fun x hx => h x (by simp [hx])
    have hlow := low_ofB l fun x hx => h x (by simp [hx])
    have hb := (h b (by simp)).1
    simp only [List.length_cons, List.replicate_succ, List.map_cons, ofB]
    have e : (ofB l * 256 + b) / 16 + (ofB l * 256 + b) = (ofB l / 16 + ofB l) * 256 + (ofB l % 16 * 16 + (b / 16 + b)) := by omega
    rw [e, and_split _ _ (by omega) (by decide), fin3 ⟨ofB l % 16, by omega⟩ ⟨b, by omega⟩, ← ih]; rfl
theorem cnt_split (h b n : Nat) (hb : b < 256) : ((List.range (8 + n)).filter (h * 256 + b).testBit).length = ((List.range 8).filter b.testBit).length + ((List.range n).filter h.testBit).length := by
  have e : h * 256 + b = 2 ^ 8 * h + b := by omega
  have hbit : ∀ j, (h * 256 + b).testBit j = if j < 8 then b.testBit j else h.testBit (j - 8) := fun j => by rw [e, Nat.testBit_two_pow_mul_add _ hb]
  rw [List.range_add, List.filter_append, List.length_append]
  congr 1
  · congr 1
    refine List.filter_congr fun j hj => ?_
    rw [hbit, if_pos (List.mem_range.1 hj)]
  · rw [List.filter_map, List.length_map]
    congr 1
    refine List.filter_congr fun j _ => ?_
    simp only [Function.comp]
    rw [hbit, if_neg (by omega), Nat.add_sub_cancel_left]
theorem cnt_ofB : ∀ l : List Nat, (∀ b ∈ l, b < 256) → ((List.range (8 * l.length)).filter (ofB l).testBit).length = (l.map fun b => ((List.range 8).filter b.testBit).length).sum
  | [], _ => rfl
  | b :: l, h => by
    have ih := cnt_ofB l fun x hx => h x (by simp [hx])
    rw [List.length_cons, show 8 * (l.length + 1) = 8 + 8 * l.length by omega]
    unfold ofB
    rw [cnt_split _ _ _ (h b (by simp)), ih, List.map_cons, List.sum_cons]
theorem div_ofB {b : Nat} {l : List Nat} (hb : b < 256) : ofB (b :: l) / 256 = ofB l := by show (ofB l * 256 + b) / 256 = ofB l; omega
theorem lin1 (c0 c1 c2 c3 c4 c5 c6 c7 : Nat) : ofB [c0, c1, c2, c3, c4, c5, c6, c7] + ofB [c1, c2, c3, c4, c5, c6, c7] = ofB [c0 + c1, c1 + c2, c2 + c3, c3 + c4, c4 + c5, c5 + c6, c6 + c7, c7] := by
  simp only [ofB]; omega
theorem lin2 (c0 c1 c2 c3 c4 c5 c6 c7 : Nat) : ofB [c0, c1, c2, c3, c4, c5, c6, c7] + ofB [c2, c3, c4, c5, c6, c7] = ofB [c0 + c2, c1 + c3, c2 + c4, c3 + c5, c4 + c6, c5 + c7, c6, c7] := by
  simp only [ofB]; omega
theorem lin3 (c0 c1 c2 c3 c4 c5 c6 c7 : Nat) : ofB [c0, c1, c2, c3, c4, c5, c6, c7] + ofB [c4, c5, c6, c7] = ofB [c0 + c4, c1 + c5, c2 + c6, c3 + c7, c4, c5, c6, c7] := by
  simp only [ofB]; omega
theorem div4 (y : Nat) : y / 4294967296 = y / 256 / 256 / 256 / 256 := by omega
theorem div2 (y : Nat) : y / 65536 = y / 256 / 256 := by omega
theorem ofB_lt8 {l : List Nat} (h : l.length = 8) (hb : ∀ b ∈ l, b < 256) : ofB l < 18446744073709551616 := by
  have := ofB_lt l hb
  rw [h] at this; exact this
theorem mod_ofB {b : Nat} {l : List Nat} (hb : b < 128) : ofB (b :: l) % 128 = b := by show (ofB l * 256 + b) % 128 = b; omega
theorem sum8 (c0 c1 c2 c3 c4 c5 c6 c7 : Nat) (h0 : c0 ≤ 8) (h1 : c1 ≤ 8) (h2 : c2 ≤ 8) (h3 : c3 ≤ 8) (h4 : c4 ≤ 8) (h5 : c5 ≤ 8) (h6 : c6 ≤ 8) (h7 : c7 ≤ 8) (y : Nat) (hy : y = ofB [c0, c1, c2, c3, c4, c5, c6, c7]) :
    ∃ y1 y2 y3, y1 = y + y / 256 ∧ y2 = y1 + y1 / 65536 ∧ y3 = y2 + y2 / 4294967296 ∧
    y3 < 18446744073709551616 ∧ y2 < 18446744073709551616 ∧ y1 < 18446744073709551616 ∧ y3 % 128 = (c0 + c1 + (c2 + c3)) + (c4 + c5 + (c6 + c7)) := by
  subst hy
  refine ⟨_, _, _, rfl, rfl, rfl, ?_⟩
  rw [div_ofB (by omega), lin1, div2, div_ofB (by omega), div_ofB (by omega), lin2, div4, div_ofB (by omega), div_ofB (by omega), div_ofB (by omega), div_ofB (by omega), lin3]
  refine ⟨ofB_lt8 rfl fun b hb => ?_, ofB_lt8 rfl fun b hb => ?_, ofB_lt8 rfl fun b hb => ?_, mod_ofB (by omega)⟩
  all_goals
    simp only [List.mem_cons, List.not_mem_nil, or_false] at hb
    omega
theorem ofB_le68 : ∀ {l : List Nat}, l.length = 8 → (∀ b ∈ l, b ≤ 68) → ofB l < 5000000000000000000
  | [a0, a1, a2, a3, a4, a5, a6, a7], _, h => by
    have h0 := h a0 (by simp); have h1 := h a1 (by simp); have h2 := h a2 (by simp); have h3 := h a3 (by simp)
    have h4 := h a4 (by simp); have h5 := h a5 (by simp); have h6 := h a6 (by simp); have h7 := h a7 (by simp)
    clear h
    simp only [ofB]; omega
theorem add16 {x : Nat} (h : x < 5000000000000000000) : x / 16 + x < 18446744073709551616 := by omega
/-- What the library does with a word: how many of its bits are set. -/
theorem pop_all (x : Nat) (hx : x < 18446744073709551616) :
    let m1 := 6148914691236517205
    let m2 := 3689348814741910323
    let m3 := 1085102592571150095
    let x1 := (x / 2 &&& m1) + (x &&& m1)
    let x2 := (x1 / 4 &&& m2) + (x1 &&& m2)
    let x3 := (x2 / 16 + x2) &&& m3
    let y1 := x3 + x3 / 256
    let y2 := y1 + y1 / 65536
    let y3 := y2 + y2 / 4294967296
    x1 < 18446744073709551616 ∧ x2 < 18446744073709551616 ∧ x2 / 16 + x2 < 18446744073709551616 ∧ y1 < 18446744073709551616 ∧ y2 < 18446744073709551616 ∧ y3 < 18446744073709551616 ∧ y3 &&& 127 = (bitsOf x).length := by
  intro m1 m2 m3 x1 x2 x3 y1 y2 y3
  obtain ⟨l, hl, hlb, rfl⟩ := ofB_ex 8 x (by simpa using hx)
  have hg : ∀ b ∈ l, g1 b < 256 ∧ g2 (g1 b) ≤ 68 ∧ g2 (g1 b) % 16 ≤ 4 ∧ g3 (g2 (g1 b)) = ((List.range 8).filter b.testBit).length := fun b hb => fing ⟨b, hlb b hb⟩
  have k1 : x1 = ofB (l.map g1) := by
    have := f1_ofB l hlb
    rw [hl] at this; exact this
  have b1 : ∀ b ∈ l.map g1, b < 256 := fun b hb => by
    obtain ⟨c, hc, rfl⟩ := List.mem_map.1 hb
    exact (hg c hc).1
  have k2 : x2 = ofB ((l.map g1).map g2) := by
    have := f2_ofB (l.map g1) b1
    rw [List.length_map, hl, ← k1] at this; exact this
  have b2 : ∀ b ∈ (l.map g1).map g2, b ≤ 68 ∧ b % 16 ≤ 4 := fun b hb => by
    obtain ⟨c, hc, rfl⟩ := List.mem_map.1 hb
    obtain ⟨d, hd, rfl⟩ := List.mem_map.1 hc
    exact ⟨(hg d hd).2.1, (hg d hd).2.2.1⟩
  have k3 : x3 = ofB (((l.map g1).map g2).map g3) := by
    have := f3_ofB _ b2
    rw [List.length_map, List.length_map, hl, ← k2] at this; exact this
  have q1 : x1 < 256 ^ 8 := by
    have := ofB_lt _ b1
    rw [List.length_map, hl, ← k1] at this; exact this
  have hsum := cnt_ofB l hlb
  rw [hl] at hsum
  have hcnt : (bitsOf (ofB l)).length = (l.map fun b => ((List.range 8).filter b.testBit).length).sum := hsum
  have hm : ((l.map g1).map g2).map g3 = l.map fun b => ((List.range 8).filter b.testBit).length := by
    rw [List.map_map, List.map_map]
    exact List.map_congr_left fun b hb => (hg b hb).2.2.2
  rw [hm] at k3
  have hle : ∀ c ∈ (l.map fun b => ((List.range 8).filter b.testBit).length), c ≤ 8 := fun c hc => by
    obtain ⟨b, _, rfl⟩ := List.mem_map.1 hc
    exact Nat.le_trans (List.length_filter_le _ _) (by simp)
  have hml : (l.map fun b => ((List.range 8).filter b.testBit).length).length = 8 := by rw [List.length_map, hl]
  have hl2 : ((l.map g1).map g2).length = 8 := by rw [List.length_map, List.length_map, hl]
  have q2 : x2 < 5000000000000000000 := by
    generalize (l.map g1).map g2 = z at k2 b2 hl2
    match z, hl2 with
    | [a0, a1, a2, a3, a4, a5, a6, a7], _ =>
      rw [k2]
      exact ofB_le68 rfl fun b hb => (b2 b hb).1
  generalize (l.map fun b => ((List.range 8).filter b.testBit).length) = z at k3 hle hml hcnt
  match z, hml with
  | [a0, a1, a2, a3, a4, a5, a6, a7], _ =>
    obtain ⟨z1, z2, z3, e1, e2, e3, r1, r2, r3, r4⟩ := sum8 a0 a1 a2 a3 a4 a5 a6 a7 (hle _ (by simp)) (hle _ (by simp)) (hle _ (by simp)) (hle _ (by simp)) (hle _ (by simp)) (hle _ (by simp)) (hle _ (by simp)) (hle _ (by simp)) x3 k3
    have f1 : y1 = z1 := e1.symm
    have f2 : y2 = z2 := by rw [e2, ← f1]
    have f3 : y3 = z3 := by rw [e3, ← f2]
    refine ⟨by simpa using q1, Nat.lt_trans q2 (by decide), add16 q2, by rw [f1]; exact r3, by rw [f2]; exact r2, by rw [f3]; exact r1, ?_⟩
    rw [f3]
    rw [hcnt, show (127 : Nat) = 2 ^ 7 - 1 from rfl, Nat.and_two_pow_sub_one_eq_mod]
    simp only [List.sum_cons, List.sum_nil]
    refine r4.trans ?_
    simp only [Nat.add_zero, Nat.add_assoc]
end Go.Proofs.YtdhlghhokbmhdaaDoor
