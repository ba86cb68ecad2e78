/- The framework on: one's own row as a list of elements; a row of zeros. -/
import Derived.Test.YtdhlghhokbmhdaaDoorZ01
import Derived.Test.YtdhlghhokbmhdaaDoorD01
import Derived.Laws.MakeOwn
namespace Go.Proofs.YtdhlghhokbmhdaaDoor.Fw
set_option linter.unusedVariables false
set_option linter.unusedSimpArgs false
set_option maxRecDepth 100000
open Go.RowKit

theorem rep_flat {X : Type} (z : List X) (h0 : 0 < z.length) : ∀ (k j : Nat), j < k * z.length → (List.replicate k z).flatten[j]? = z[j % z.length]?
  | 0, j, hj => by omega
  | k + 1, j, hj => by
    rw [List.replicate_succ, List.flatten_cons]
    by_cases h : j < z.length
    · rw [List.getElem?_append_left h, Nat.mod_eq_of_lt h]
    · rw [List.getElem?_append_right (by omega), rep_flat z h0 k (j - z.length) (by rw [Nat.add_mul] at hj; omega)]
      congr 1
      exact (Nat.mod_eq_sub_mod (by omega)).symm
theorem rep_len {X : Type} (z : List X) (k : Nat) : (List.replicate k z).flatten.length = k * z.length := by
  induction k with
  | zero => simp
  | succ k ih => rw [List.replicate_succ, List.flatten_cons, List.length_append, ih, Nat.add_mul]; omega


section
variable {X : Type} {enc : X → List PV} {sz : Nat}

theorem flat_drop (h : ∀ x, (enc x).length = sz) : ∀ (l : List X) (i : Nat), ((l.map enc).flatten).drop (i * sz) = ((l.drop i).map enc).flatten
  | [], i => by simp
  | x :: l, 0 => by simp
  | x :: l, i + 1 => by
    rw [List.map_cons, List.flatten_cons, show (i + 1) * sz = (enc x).length + i * sz by rw [h, Nat.add_mul]; omega, List.drop_length_add_append]
    exact flat_drop h l i

theorem flat_take (h : ∀ x, (enc x).length = sz) : ∀ (l : List X) (i : Nat), ((l.map enc).flatten).take (i * sz) = ((l.take i).map enc).flatten
  | [], i => by simp
  | x :: l, 0 => by simp
  | x :: l, i + 1 => by
    rw [List.map_cons, List.flatten_cons, show (i + 1) * sz = (enc x).length + i * sz by rw [h, Nat.add_mul]; omega, List.take_length_add_append]
    rw [flat_take h l i]; rfl

theorem flat_setAt (h : ∀ x, (enc x).length = sz) {l : List X} {i : Nat} (y : X) (hi : i < l.length) : splice ((l.map enc).flatten) (i * sz) (enc y) = ((l.set i y).map enc).flatten := by
  unfold splice
  rw [h, flat_take h, show i * sz + sz = (i + 1) * sz by rw [Nat.add_mul]; omega, flat_drop h, List.set_eq_take_append_cons_drop, if_pos hi]
  simp

variable {P : Program} {Γ : Nat → PV} {o : Oper} {A : List (Nat × PV)} {H : List Blk} {K : PV → List Blk → Prop}

theorem os_idxRow {t : TypeId} {x ix : Operand} {by' b q m i : Nat} {k : IntKind} {l : List X} (h : ∀ x, (enc x).length = sz) (ho : o.op = .indexAddr t x ix) (ht : elOf P t = some (sz, by')) (hx : ev Γ A x = .row b q m sz) (hi : ev Γ A ix = .int k (i : Int))
    (hb : H[b]? = some (.row sz ((l.map enc).flatten))) (hl : l.length * sz = q + m * sz) (hn : i < m) (hk : K (.eptr b (q + i * sz) (l.length * sz)) H) : OStep P Γ o A H K :=
  os_index_row ho ht hx hi hb (by rw [flat_len h]; exact hl) (by omega) (by omega) (by rw [flat_len h, Int.toNat_natCast]; exact hk)

theorem os_loadRow {t : TypeId} {x : Operand} {ti : TI} {b q i len : Nat} {l : List X} {y : X} {p : PV} (h : ∀ x, (enc x).length = sz) (ho : o.op = .load t x) (ht : tiOf P t = some ti) (hx : ev Γ A x = .eptr b q len) (hb : H[b]? = some (.row sz ((l.map enc).flatten)))
    (hq : q = i * sz) (hlen : len = l.length * sz) (hy : l[i]? = some y) (hsz : ti.size = sz) (hp : if ti.agg = true then p = .agg (enc y) else (enc y)[0]? = some p) (hk : K p H) : OStep P Γ o A H K := by
  have hd : ((l.map enc).flatten).drop q = enc y ++ ((l.drop (i + 1)).map enc).flatten := by
    rw [hq, flat_drop h]
    have hi := (List.getElem?_eq_some_iff.1 hy)
    obtain ⟨hi, rfl⟩ := hi
    rw [List.drop_eq_getElem_cons hi, List.map_cons, List.flatten_cons]
  refine os_load (cs := ((l.map enc).flatten).drop q) ho ht (by unfold rd; rw [hx]; simp only [hb]; rw [if_pos (by rw [flat_len h]; exact hlen.symm)]) ?_ hk
  rw [hd]
  by_cases ha : ti.agg = true
  · rw [if_pos ha] at hp ⊢
    refine ⟨by rw [List.length_append, h]; omega, ?_⟩
    rw [hp, hsz, ← h y, List.take_left]
  · rw [if_neg ha] at hp ⊢
    rw [List.getElem?_append_left (List.getElem?_eq_some_iff.1 hp).1]; exact hp

theorem os_putRow {t : TypeId} {x y : Operand} {ti : TI} {b q i len : Nat} {l : List X} {e : X} (h : ∀ x, (enc x).length = sz) (ho : o.op = .store t x y) (ht : tiOf P t = some ti) (hx : ev Γ A x = .eptr b q len) (hb : H[b]? = some (.row sz ((l.map enc).flatten)))
    (hq : q = i * sz) (hlen : len = l.length * sz) (hi : i < l.length) (hy : (ev Γ A y).shaped = true) (hc : (ev Γ A y).cells = enc e) (hsz : ti.size = sz) (h0 : 0 < sz) (hk : K .any (H.set b (.row sz (((l.set i e).map enc).flatten)))) : OStep P Γ o A H K := by
  have hm : (i + 1) * sz ≤ l.length * sz := Nat.mul_le_mul_right _ hi
  rw [Nat.add_mul] at hm
  refine os_storeE ho ht hx hb (by rw [flat_len h]; exact hlen.symm) hy (by rw [hc, h, hsz]) (by rw [flat_len h, hsz, hq]; omega) (by omega) ?_
  rw [hc, hq, flat_setAt h e hi]
  exact hk

variable {ops : Array Oper} {cls : List Nat} {n0 : View} {KD : List (Nat × PV) → List Blk → Prop} {j : Nat} {rest : List (Nat × Oper)}

theorem dops_idxRow {t : TypeId} {x ix : Operand} {by' b q m i : Nat} {k : IntKind} {l : List X} (h : ∀ x, (enc x).length = sz) (ho : o.op = .indexAddr t x ix) (hw : wantA ops A o = some true) (hc : cls.getD j 0 = 1) (ht : elOf P t = some (sz, by')) (hx : ev Γ A x = .row b q m sz) (hi : ev Γ A ix = .int k (i : Int))
    (hb : H[b]? = some (.row sz ((l.map enc).flatten))) (hl : l.length * sz = q + m * sz) (hn : i < m) (hk : DOps P Γ ops cls n0 KD rest (aput A o.dst (.eptr b (q + i * sz) (l.length * sz))) H) : DOps P Γ ops cls n0 KD ((j, o) :: rest) A H :=
  dops_reads _ hw hc (fun A' hev => os_idxRow h ho ht ((hev x (by simp [ho, Op.operands])).trans hx) ((hev ix (by simp [ho, Op.operands])).trans hi) hb hl hn ⟨rfl, rfl⟩) hk

theorem dops_loadRow {t : TypeId} {x : Operand} {ti : TI} {b q i len : Nat} {l : List X} {y : X} (p : PV) (h : ∀ x, (enc x).length = sz) (ho : o.op = .load t x) (hw : wantA ops A o = some true) (hc : cls.getD j 0 = 1) (ht : tiOf P t = some ti) (hx : ev Γ A x = .eptr b q len) (hb : H[b]? = some (.row sz ((l.map enc).flatten)))
    (hq : q = i * sz) (hlen : len = l.length * sz) (hy : l[i]? = some y) (hsz : ti.size = sz) (hp : if ti.agg = true then p = .agg (enc y) else (enc y)[0]? = some p) (hk : DOps P Γ ops cls n0 KD rest (aput A o.dst p) H) : DOps P Γ ops cls n0 KD ((j, o) :: rest) A H :=
  dops_reads p hw hc (fun A' hev => os_loadRow h ho ht ((hev x (by simp [ho, Op.operands])).trans hx) hb hq hlen hy hsz hp ⟨rfl, rfl⟩) hk

/-- A store into one's own row, in a drawn region. -/
theorem dops_putRow {t : TypeId} {x y : Operand} {ti : TI} {b q i len : Nat} {l : List X} {e : X} (h : ∀ x, (enc x).length = sz) (ho : o.op = .store t x y) (hw : wantA ops A o = some true) (hc' : cls.getD j 0 = 2) (ht : tiOf P t = some ti) (hx : ev Γ A x = .eptr b q len) (hb : H[b]? = some (.row sz ((l.map enc).flatten)))
    (hq : q = i * sz) (hlen : len = l.length * sz) (hi : i < l.length) (hy : (ev Γ A y).shaped = true) (hc : (ev Γ A y).cells = enc e) (hsz : ti.size = sz) (h0 : 0 < sz) (hk : DOps P Γ ops cls n0 KD rest (aput A o.dst .any) (H.set b (.row sz (((l.set i e).map enc).flatten)))) : DOps P Γ ops cls n0 KD ((j, o) :: rest) A H :=
  dops_turns .any hw hc' (fun A' hev => by
    have ey := hev y (by simp [ho, Op.operands])
    exact os_putRow (e := e) h ho ht ((hev x (by simp [ho, Op.operands])).trans hx) hb hq hlen hi (by rw [ey]; exact hy) (by rw [ey]; exact hc) hsz h0 ⟨rfl, rfl⟩) hk
end

/-- A row of zeros. -/
theorem os_makeRow {P : Program} {Γ : Nat → PV} {o : Oper} {A : List (Nat × PV)} {H : List Blk} {K : PV → List Blk → Prop} {t : TypeId} {x y : Operand} {e : TypeId} {ti : TI} {k k' : IntKind} {n : Nat} (ho : o.op = .makeSlice t x y) (ht : P.underlying t = some (.slice e)) (he : tiOf P e = some ti) (hsz : 0 < ti.size)
    (hx : ev Γ A x = .int k (n : Int)) (hy : ev Γ A y = .int k' (n : Int)) (hn : n ≤ 9223372036854775807) (hb : ti.bytes * n ≤ 281474976710656) (hk : K (.row H.length 0 n ti.size) (H ++ [.row ti.size (List.replicate n ti.zero).flatten])) : OStep P Γ o A H K :=
  ostep_value (by simp [ho]) fun w0 G w N a hs ha => by
    obtain ⟨i, d, z, hi, hd, hzo, hzs, hisz, hiby, hone, _, hzl⟩ := tiOf_spec he
    have hlx := ha.ev hs.glob x
    rw [hx] at hlx
    have hax := hlx.int_inv
    have hly := ha.ev hs.glob y
    rw [hy] at hly
    have hay := hly.int_inv
    have hzlen : ti.zero.length = ti.size := by rw [hzl, List.length_map, Array.length_toList, hzs]
    have hb' : (i.bytes : Int) * (n : Int) ≤ 281474976710656 := by
      have h : ((i.bytes * n : Nat) : Int) ≤ 281474976710656 := by rw [hiby]; omega
      rwa [Int.natCast_mul] at h
    have hrun := run_make (P := P) w t e i z ht hi hzo k k' (n : Int) (n : Int) (by omega) (Int.le_refl _) hb' (by omega)
    rw [Int.toNat_natCast, hisz] at hrun
    have hC : ∀ (j : Nat) (u : Value), (madeCells z.cells (n * ti.size))[j]? = some u → j < n * ti.size ∧ z.cells[j % ti.size]? = some u := fun j u hu => by
      unfold madeCells at hu
      rw [Array.getElem?_map] at hu
      obtain ⟨y, hy, rfl⟩ := Option.map_eq_some_iff.1 hu
      obtain ⟨hy1, hy2⟩ := Array.getElem?_eq_some_iff.1 hy
      simp only [Array.getElem_range] at hy2
      subst hy2
      have hjz : j % ti.size < z.cells.size := by rw [hzs]; exact Nat.mod_lt _ hsz
      refine ⟨by simpa using hy1, ?_⟩
      rw [hzs, Array.getElem?_eq_getElem hjz]
      congr 1
      exact (getElem!_pos z.cells (j % ti.size) hjz).symm
    obtain ⟨G', g1, g2, g3⟩ := hs.newRow (madeCells z.cells (n * ti.size)) e (cs := (List.replicate n ti.zero).flatten) (sz := ti.size) (k := n) (cap := n) hsz (by rw [rep_len, hzlen]) (by simp [madeCells]) hn (Nat.le_refl _) (by
        rw [PV.bdL_iff]
        intro p hp
        obtain ⟨z', hz', hp'⟩ := List.mem_flatten.1 hp
        rw [(List.mem_replicate.1 hz').2, hzl] at hp'
        obtain ⟨v, _, rfl⟩ := List.mem_map.1 hp'
        exact (ofC_rep G H.length v).bound) (fun j c u hc hu => by
      obtain ⟨hj, hz⟩ := hC j u hu
      rw [rep_flat _ (by omega) n j (by rw [hzlen]; exact hj), hzlen, hzl, List.getElem?_map, Array.getElem?_toList, hz] at hc
      simp only [Option.map_some, Option.some.injEq] at hc
      subst hc
      exact ⟨ofC_rep G _ u, hone _ u hz⟩)
    refine ⟨_, _, G', _, _, ?_, g1, g3, g2, by simp, hk⟩
    simp [execOp, ho, hax, hay, hrun]

end Go.Proofs.YtdhlghhokbmhdaaDoor.Fw
