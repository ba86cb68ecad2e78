/- The document's Project. -/
import Derived.Test.YteicbhkimepbaaaGreatDoorWF
import Derived.Test.YteicbhkimepbaaaGreatDoorWE
namespace Go.Proofs.YteicbhkimepbaaaGreatDoor
set_option linter.unusedVariables false
set_option linter.unusedSimpArgs false
set_option maxRecDepth 100000
open Go.RowKit Fw
def rawW (ns : List (List UInt8)) (us : List Nat) (c : List Pr) (v w : Int) : Bool := decide (0 ≤ w) && (rchB c v w && !leqB (min ns.length us.length) us (highV ns us c v) (lowV ns us c w))
def rawI (ns : List (List UInt8)) (us : List Nat) (c : List Pr) (v : Int) (l : List Int) : List Pr := (l.filter (rawW ns us c v)).map fun w => ⟨v, w⟩
def rawA (ns : List (List UInt8)) (us : List Nat) (c : List Pr) (v : Int) : List Pr := if lowV ns us c v = botV ns us then [] else [⟨-1 - lowV ns us c v, v⟩]
def rawB (ns : List (List UInt8)) (us : List Nat) (c : List Pr) (v : Int) : List Pr := if highV ns us c v = topV ns us then [] else [⟨v, -1 - highV ns us c v⟩]
def rawV (ns : List (List UInt8)) (us : List Nat) (c : List Pr) (K : List Int) (v : Int) : List Pr := (rawA ns us c v ++ rawB ns us c v) ++ rawI ns us c v K
def rawL (ns : List (List UInt8)) (us : List Nat) (c : List Pr) (K l : List Int) : List Pr := (l.filter fun v => decide (0 ≤ v)).flatMap (rawV ns us c K)
section
variable {ns : List (List UInt8)} {us : List Nat} {c : List Pr} {K l : List Int} {v w : Int}
theorem rawI_snoc : rawI ns us c v (l ++ [w]) = if rawW ns us c v w = true then rawI ns us c v l ++ [⟨v, w⟩] else rawI ns us c v l := by
  unfold rawI
  rw [List.filter_append]
  by_cases h : rawW ns us c v w = true
  · rw [if_pos h, show [w].filter (rawW ns us c v) = [w] by simp [h], List.map_append]; rfl
  · rw [if_neg h, show [w].filter (rawW ns us c v) = [] by simp [h], List.append_nil]
theorem rawL_snoc : rawL ns us c K (l ++ [v]) = if v < 0 then rawL ns us c K l else rawL ns us c K l ++ rawV ns us c K v := by
  unfold rawL
  rw [List.filter_append, List.flatMap_append]
  by_cases h : v < 0
  · rw [if_pos h, show [v].filter (fun v => decide (0 ≤ v)) = [] by simp; omega, List.flatMap_nil, List.append_nil]
  · rw [if_neg h, show [v].filter (fun v => decide (0 ≤ v)) = [v] by simp; omega, List.flatMap_cons, List.flatMap_nil, List.append_nil]
theorem rawI_len (l : List Int) : (rawI ns us c v l).length ≤ l.length := by unfold rawI; rw [List.length_map]; exact List.length_filter_le _ _
theorem rawA_len : (rawA ns us c v).length ≤ 1 := by unfold rawA; split <;> simp
theorem rawB_len : (rawB ns us c v).length ≤ 1 := by unfold rawB; split <;> simp
theorem rawV_len : (rawV ns us c K v).length ≤ K.length + 2 := by
  have h1 := rawA_len (ns := ns) (us := us) (c := c) (v := v)
  have h2 := rawB_len (ns := ns) (us := us) (c := c) (v := v)
  have h3 := rawI_len (ns := ns) (us := us) (c := c) (v := v) K
  unfold rawV
  rw [List.length_append, List.length_append]; omega
theorem rawL_len (l : List Int) : (rawL ns us c K l).length ≤ l.length * (K.length + 2) := by
  unfold rawL
  exact Nat.le_trans (flatMap_le _ _ (fun v => rawV_len) _) (Nat.mul_le_mul_right _ (List.length_filter_le _ _))
theorem rawL_mem {p : Pr} : p ∈ rawL ns us c K K ↔ ProjP ns us c K p := by
  unfold rawL ProjP
  rw [List.mem_flatMap]
  have hA : ∀ v, p ∈ rawA ns us c v ↔ lowV ns us c v ≠ botV ns us ∧ p = ⟨-1 - lowV ns us c v, v⟩ := fun v => by unfold rawA; split <;> simp [*]
  have hB : ∀ v, p ∈ rawB ns us c v ↔ highV ns us c v ≠ topV ns us ∧ p = ⟨v, -1 - highV ns us c v⟩ := fun v => by unfold rawB; split <;> simp [*]
  have hI : ∀ v, p ∈ rawI ns us c v K ↔ ∃ w ∈ K, 0 ≤ w ∧ Rch c v w ∧ leqB (min ns.length us.length) us (highV ns us c v) (lowV ns us c w) = false ∧ p = ⟨v, w⟩ := fun v => by
    unfold rawI rawW
    rw [List.mem_map]
    constructor
    · rintro ⟨w, hw, rfl⟩
      rw [List.mem_filter] at hw
      obtain ⟨h1, h2⟩ := hw
      simp only [Bool.and_eq_true, decide_eq_true_eq, Bool.not_eq_true'] at h2
      exact ⟨w, h1, h2.1, rchB_iff.1 h2.2.1, h2.2.2, rfl⟩
    · rintro ⟨w, h1, h2, h3, h4, rfl⟩
      exact ⟨w, List.mem_filter.2 ⟨h1, by simp [h2, rchB_iff.2 h3, h4]⟩, rfl⟩
  constructor
  · rintro ⟨v, hv, h⟩
    rw [List.mem_filter] at hv
    have h0 : 0 ≤ v := by simpa using hv.2
    unfold rawV at h
    rw [List.mem_append, List.mem_append, hA, hB, hI] at h
    rcases h with (h | h) | h
    · exact ⟨v, hv.1, h0, .inl h⟩
    · exact ⟨v, hv.1, h0, .inr (.inl h)⟩
    · exact ⟨v, hv.1, h0, .inr (.inr h)⟩
  · rintro ⟨v, hv, h0, h⟩
    refine ⟨v, List.mem_filter.2 ⟨hv, by simpa using h0⟩, ?_⟩
    unfold rawV
    rw [List.mem_append, List.mem_append, hA, hB, hI]
    rcases h with h | h | h
    · exact .inl (.inl h)
    · exact .inl (.inr h)
    · exact .inr h
end
theorem bot_i64 {ns : List (List UInt8)} {us : List Nat} {c : List Pr} {v : Int} (hk : knownB ns us c = true) (h0 : 0 ≤ v) : (0 ≤ lowV ns us c v ∧ lowV ns us c v < 64) ∧ (0 ≤ highV ns us c v ∧ highV ns us c v < 64) := by
  obtain ⟨hR, _⟩ := known_spec.1 hk
  obtain ⟨_, r2, _⟩ := right_spec hR
  obtain ⟨x, ex, hx⟩ := low_nat hk h0
  obtain ⟨y, ey, hy⟩ := high_nat hk h0
  have := hx.1
  have := hy.1
  omega
set_option maxHeartbeats 16000000 in
theorem c36 (Γ : Nat → PV) (ns : List (List UInt8)) (us : List Nat) (hw : W64 us) (c : List Pr) (hl : c.length ≤ 10000000) (ho : OkP c) (K : List Int) (hk64 : ∀ v ∈ K, I64 v) (hkl : K.length * (K.length + 2) ≤ 1200000000000) : Gives Tryz.prog Γ 36 [.agg [.vec (ns.map S1) false, .vec (us.map U1) false], .vec (c.map Pr.enc) false, .vec (K.map I1) false] (.vec ((projV ns us c K).map Pr.enc) false) := by
  have h18 := c18 Γ ns us hw c (by omega) ho
  have h56 := c56 Γ ns us hw
  have h81 := c81 Γ ns us hw
  have hrl := rawL_len (ns := ns) (us := us) (c := c) (K := K) K
  have h86 := c86 Γ (rawL ns us c K K) (by omega)
  refine fn_of_awp Tryz.func36 rfl (by simp [Tryz.f36]) rfl fun H => ?_
  refine awp_seq ?_
  refine awp_run rfl (by simp only [fwA, seval, gfw, bx, dx, bitfw] <;> rfl) ?_
  refine awp_seq ?_
  refine awp_seq ?_
  cases hk : knownB ns us c
  · rw [show projV ns us c K = [] by unfold projV; rw [if_neg (by rw [hk]; decide)]]
    rw [hk] at h18
    refine awp_region rfl ?_
    refine aops_run 2 (by simp only [fwA, seval, gfw, bx, dx, bitfw] <;> rfl) ?_
    refine aops_fn rfl rfl rfl en18 h18 ?_
    refine aops_run 1 (by simp only [fwA, seval, gfw, bx, dx, bitfw] <;> rfl) ?_
    refine aops_end ?_
    refine awp_cond (b := true) (by simp [alook, aput, ev]) ?_
    refine awp_seq ?_
    refine awp_run rfl (by simp only [fwA, seval] <;> rfl) ?_
    refine awp_told (told_le 6 (.vec [] false) ⟨nofun, trivial⟩) ?_
    refine awp_ret ?_
    exact gives_end (.inl rfl) _ rfl
  rw [proj_is hk fun p => rawL_mem] at h86
  rw [hk] at h18
  refine awp_region rfl ?_
  refine aops_run 2 (by simp only [fwA, seval, gfw, bx, dx, bitfw] <;> rfl) ?_
  refine aops_fn rfl rfl rfl en18 h18 ?_
  refine aops_run 1 (by simp only [fwA, seval, gfw, bx, dx, bitfw] <;> rfl) ?_
  refine aops_end ?_
  refine awp_cond (b := false) (by simp [alook, aput, ev]) (awp_skip ?_)
  refine awp_seq ?_
  refine awp_region rfl ?_
  refine aops_run 1 (by simp only [fwA, seval, gfw, bx, dx, bitfw] <;> rfl) ?_
  refine aops_fn rfl rfl rfl en56 h56 ?_
  refine aops_run 1 (by simp only [fwA, seval, gfw, bx, dx, bitfw] <;> rfl) ?_
  refine aops_end ?_
  refine awp_seq ?_
  refine awp_region rfl ?_
  refine aops_run 1 (by simp only [fwA, seval, gfw, bx, dx, bitfw] <;> rfl) ?_
  refine aops_fn rfl rfl rfl en81 h81 ?_
  refine aops_run 1 (by simp only [fwA, seval, gfw, bx, dx, bitfw] <;> rfl) ?_
  refine aops_end ?_
  refine awp_seq ?_
  refine awp_run rfl (by simp only [fwA, seval] <;> rfl) ?_
  refine awp_told (told_adopt 9 2 (by decide) (by simp [alook])) ?_
  refine awp_heap (H' := H ++ [.box [.vec (ns.map S1) false, .vec (us.map U1) false], .row 2 (((rawL ns us c K (K.take 0)).map Pr.enc).flatten)]) (by simp [rawL]) ?_
  refine awp_seq ?_
  refine awp_seq ?_
  refine awp_run rfl (by simp only [fwA, seval] <;> rfl) ?_
  refine awp_block ?_
  refine awp_for [1, 2, 3, 7, 8, 9, 10] (fun i : Nat => [.vec (c.map Pr.enc) false, .vec (K.map I1) false, .ptr H.length 0, .int .i64 (botV ns us), .int .i64 (topV ns us), .row (H.length + 1) 0 (rawL ns us c K (K.take i)).length 2, .int .i64 (i : Int)]) (fun i => H ++ [.box [.vec (ns.map S1) false, .vec (us.map U1) false], .row 2 (((rawL ns us c K (K.take i)).map Pr.enc).flatten)]) (fun i => K.length - i) (fun i => i ≤ K.length) 0 rfl rfl (Nat.zero_le _) fun i hi => ?_
  refine awp_vlen 2 rfl fun hKl => ?_
  rw [List.length_map] at hKl
  refine awp_seq ?_
  refine awp_seq ?_
  by_cases hc : (i : Int) < K.length
  rotate_left
  · refine awp_run rfl (by simp only [fwA, seval, gfw, bx, dx, bitfw, hc] <;> rfl) ?_
    refine awp_cond (b := false) (by simp [alook, aput, ev]) ?_
    refine awp_exit ?_
    rw [List.take_of_length_le (show K.length ≤ i by omega)]
    refine awp_told (told_freezeAt H _ 1 (C := ((rawL ns us c K K).map Pr.enc).flatten) rfl (flat_bd (fun t => by simp only [Pr.fw]) _)) ?_
    have hl2 := flat_len Pr.enc_len (rawL ns us c K K)
    have hch2 := flat_chunk Pr.enc_len (rawL ns us c K K)
    refine awp_keep (A' := [(9, .vec ((rawL ns us c K K).map Pr.enc) false)]) [9] (by simp only [fwA, seval, gfw, akeep, hl2, hch2] <;> rfl) ?_
    refine awp_seq ?_
    refine awp_region rfl ?_
    refine aops_run 1 (by simp only [fwA, seval, gfw, bx, dx, bitfw] <;> rfl) ?_
    refine aops_fn rfl rfl rfl en86 h86 ?_
    refine aops_run 1 (by simp only [fwA, seval, gfw, bx, dx, bitfw] <;> rfl) ?_
    refine aops_end ?_
    refine awp_ret ?_
    exact gives_end (.inl rfl) _ rfl
  have hi' : i < K.length := by omega
  obtain ⟨v, hz⟩ : ∃ v, K[i]? = some v := ⟨_, List.getElem?_eq_getElem hi'⟩
  have hts := take_snoc hz
  have hwi : IntKind.i64.wrap ((i : Int) + 1) = ((i + 1 : Nat) : Int) := wrapS i (by omega)
  have hv64 := hk64 v (List.mem_of_getElem? hz)
  have hOl := rawL_len (ns := ns) (us := us) (c := c) (K := K) (K.take i)
  rw [List.length_take, Nat.min_eq_left hi] at hOl
  have hii : i * (K.length + 2) + (K.length + 2) ≤ 1200000000000 := by
    have := Nat.mul_le_mul_right (K.length + 2) (show i + 1 ≤ K.length by omega)
    rw [Nat.add_mul] at this
    omega
  have hsn := rawL_snoc (ns := ns) (us := us) (c := c) (K := K) (l := K.take i) (v := v)
  rw [← hts] at hsn
  generalize hO : rawL ns us c K (K.take i) = O at *
  generalize hO2 : rawL ns us c K (K.take (i + 1)) = O2 at *
  refine awp_run rfl (by simp only [fwA, seval, gfw, bx, dx, bitfw, hc] <;> rfl) ?_
  refine awp_cond (b := true) (by simp [alook, aput, ev]) ?_
  refine awp_skip ?_
  refine awp_join [1, 2, 3, 7, 8, 9, 10] (fun _ : Unit => [.vec (c.map Pr.enc) false, .vec (K.map I1) false, .ptr H.length 0, .int .i64 (botV ns us), .int .i64 (topV ns us), .row (H.length + 1) 0 O2.length 2, .int .i64 (i : Int)]) (fun _ => H ++ [.box [.vec (ns.map S1) false, .vec (us.map U1) false], .row 2 ((O2.map Pr.enc).flatten)]) (fun _ => True) ?_ fun _ _ => ?_
  · refine awp_block ?_
    refine awp_seq ?_
    refine awp_run rfl (by simp only [fwA, seval, gfw, bx, dx, bitfw, hz] <;> rfl) ?_
    refine awp_seq ?_
    refine awp_seq ?_
    by_cases hv0 : v < 0
    · rw [if_pos hv0] at hsn
      refine awp_run rfl (by simp only [fwA, seval, gfw, bx, dx, bitfw, hv0] <;> rfl) ?_
      refine awp_cond (b := true) (by simp [alook, aput, ev]) ?_
      refine awp_exit ?_
      exact ⟨(), trivial, by simp only [fwA, seval, gfw, hsn], by simp only [hsn], rfl⟩
    rw [if_neg hv0] at hsn
    have hv0' : 0 ≤ v := by omega
    have h29 := c29 Γ ns us hw c hl ho v hv64
    have h31 := c31 Γ ns us hw c hl ho v hv64
    have hb64 := bot_i64 (ns := ns) (us := us) hk hv0'
    have hAl := rawA_len (ns := ns) (us := us) (c := c) (v := v)
    have hBl := rawB_len (ns := ns) (us := us) (c := c) (v := v)
    refine awp_run rfl (by simp only [fwA, seval, gfw, bx, dx, bitfw, hv0] <;> rfl) ?_
    refine awp_cond (b := false) (by simp [alook, aput, ev]) (awp_skip ?_)
    refine awp_seq ?_
    refine awp_region rfl ?_
    refine aops_run 3 (by simp only [fwA, seval, gfw, bx, dx, bitfw] <;> rfl) ?_
    refine aops_fn rfl rfl rfl en29 h29 ?_
    refine aops_run 1 (by simp only [fwA, seval, gfw, bx, dx, bitfw] <;> rfl) ?_
    refine aops_end ?_
    refine awp_seq ?_
    refine awp_region rfl ?_
    refine aops_run 3 (by simp only [fwA, seval, gfw, bx, dx, bitfw] <;> rfl) ?_
    refine aops_fn rfl rfl rfl en31 h31 ?_
    refine aops_run 1 (by simp only [fwA, seval, gfw, bx, dx, bitfw] <;> rfl) ?_
    refine aops_end ?_
    have hwl : IntKind.i64.wrap (-1 - lowV ns us c v) = -1 - lowV ns us c v := wrapId ⟨by omega, by omega⟩
    have hwh : IntKind.i64.wrap (-1 - highV ns us c v) = -1 - highV ns us c v := wrapId ⟨by omega, by omega⟩
    refine awp_join [1, 2, 3, 7, 8, 9, 10, 11, 12, 13] (fun _ : Unit => [.vec (c.map Pr.enc) false, .vec (K.map I1) false, .ptr H.length 0, .int .i64 (botV ns us), .int .i64 (topV ns us), .row (H.length + 1) 0 (O ++ rawA ns us c v).length 2, .int .i64 (i : Int), .int .i64 v, .int .i64 (lowV ns us c v), .int .i64 (highV ns us c v)]) (fun _ => H ++ [.box [.vec (ns.map S1) false, .vec (us.map U1) false], .row 2 (((O ++ rawA ns us c v).map Pr.enc).flatten)]) (fun _ => True) ?_ fun _ _ => ?_
    · refine awp_seq ?_
      by_cases hlb : lowV ns us c v = botV ns us
      · have e : rawA ns us c v = [] := by unfold rawA; rw [if_pos hlb]
        have hdx : decide (lowV ns us c v = botV ns us) = true := decide_eq_true hlb
        refine awp_run rfl (by simp only [fwA, seval, gfw, bx, dx, bitfw, hlb] <;> rfl) ?_
        refine awp_cond (b := false) (by simp [alook, aput, ev]) (awp_skip ?_)
        exact ⟨(), trivial, by simp only [fwA, seval, gfw, e, List.append_nil, hlb], by simp only [e, List.append_nil], rfl⟩
      · have e : rawA ns us c v = [⟨-1 - lowV ns us c v, v⟩] := by unfold rawA; rw [if_neg hlb]
        refine awp_run rfl (by simp only [fwA, seval, gfw, bx, dx, bitfw, hlb] <;> rfl) ?_
        refine awp_cond (b := true) (by simp [alook, aput, ev]) ?_
        refine awp_region rfl ?_
        refine aops_run 6 (by simp only [fwA, seval, gfw, bx, dx, bitfw, hwl] <;> rfl) ?_
        refine aops_push (enc := Pr.enc) (l := O) (z := ⟨-1 - lowV ns us c v, v⟩) Pr.enc_len rfl rfl un32 ti86 rfl un32 rfl (by simp [Fw.get_at]) rfl rfl (by show (O.length + 1) * 16 ≤ _; omega) (by omega) rfl ?_
        refine aops_run 1 (by simp only [fwA, seval, gfw, bx, dx, bitfw, hwl] <;> rfl) ?_
        refine aops_end ?_
        exact ⟨(), trivial, by simp only [fwA, seval, gfw, e, List.length_append, List.length_cons, List.length_nil], by simp [e, Fw.set_at], rfl⟩
    have hO1 : (O ++ rawA ns us c v).length ≤ O.length + 1 := by rw [List.length_append]; omega
    generalize hOA : O ++ rawA ns us c v = OA at *
    refine awp_join [1, 2, 3, 7, 8, 9, 10, 11, 13] (fun _ : Unit => [.vec (c.map Pr.enc) false, .vec (K.map I1) false, .ptr H.length 0, .int .i64 (botV ns us), .int .i64 (topV ns us), .row (H.length + 1) 0 (OA ++ rawB ns us c v).length 2, .int .i64 (i : Int), .int .i64 v, .int .i64 (highV ns us c v)]) (fun _ => H ++ [.box [.vec (ns.map S1) false, .vec (us.map U1) false], .row 2 (((OA ++ rawB ns us c v).map Pr.enc).flatten)]) (fun _ => True) ?_ fun _ _ => ?_
    · refine awp_seq ?_
      by_cases hlb : highV ns us c v = topV ns us
      · have e : rawB ns us c v = [] := by unfold rawB; rw [if_pos hlb]
        refine awp_run rfl (by simp only [fwA, seval, gfw, bx, dx, bitfw, hlb] <;> rfl) ?_
        refine awp_cond (b := false) (by simp [alook, aput, ev]) (awp_skip ?_)
        exact ⟨(), trivial, by simp only [fwA, seval, gfw, e, List.append_nil, hlb], by simp only [e, List.append_nil], rfl⟩
      · have e : rawB ns us c v = [⟨v, -1 - highV ns us c v⟩] := by unfold rawB; rw [if_neg hlb]
        refine awp_run rfl (by simp only [fwA, seval, gfw, bx, dx, bitfw, hlb] <;> rfl) ?_
        refine awp_cond (b := true) (by simp [alook, aput, ev]) ?_
        refine awp_region rfl ?_
        refine aops_run 6 (by simp only [fwA, seval, gfw, bx, dx, bitfw, hwh] <;> rfl) ?_
        refine aops_push (enc := Pr.enc) (l := OA) (z := ⟨v, -1 - highV ns us c v⟩) Pr.enc_len rfl rfl un32 ti86 rfl un32 rfl (by simp [Fw.get_at]) rfl rfl (by show (OA.length + 1) * 16 ≤ _; omega) (by omega) rfl ?_
        refine aops_run 1 (by simp only [fwA, seval, gfw, bx, dx, bitfw, hwh] <;> rfl) ?_
        refine aops_end ?_
        exact ⟨(), trivial, by simp only [fwA, seval, gfw, e, List.length_append, List.length_cons, List.length_nil], by simp [e, Fw.set_at], rfl⟩
    have hOB1 : (OA ++ rawB ns us c v).length ≤ O.length + 2 := by rw [List.length_append]; omega
    have hfin : O2 = (OA ++ rawB ns us c v) ++ rawI ns us c v K := by rw [hsn, ← hOA]; unfold rawV; simp only [List.append_assoc]
    generalize OA ++ rawB ns us c v = OB at *
    refine awp_seq ?_
    refine awp_run rfl (by simp only [fwA, seval] <;> rfl) ?_
    refine awp_heap (H' := H ++ [.box [.vec (ns.map S1) false, .vec (us.map U1) false], .row 2 (((OB ++ rawI ns us c v (K.take 0)).map Pr.enc).flatten)]) (by simp [rawI]) ?_
    refine awp_block ?_
    refine awp_for [1, 2, 3, 7, 8, 9, 10, 11, 13, 14] (fun k : Nat => [.vec (c.map Pr.enc) false, .vec (K.map I1) false, .ptr H.length 0, .int .i64 (botV ns us), .int .i64 (topV ns us), .row (H.length + 1) 0 (OB ++ rawI ns us c v (K.take k)).length 2, .int .i64 (i : Int), .int .i64 v, .int .i64 (highV ns us c v), .int .i64 (k : Int)]) (fun k => H ++ [.box [.vec (ns.map S1) false, .vec (us.map U1) false], .row 2 (((OB ++ rawI ns us c v (K.take k)).map Pr.enc).flatten)]) (fun k => K.length - k) (fun k => k ≤ K.length) 0 (by simp only [fwA, seval, gfw, List.take_zero, rawI, List.filter_nil, List.append_nil]) rfl (Nat.zero_le _) fun k hk0 => ?_
    refine awp_seq ?_
    refine awp_seq ?_
    by_cases hc : (k : Int) < K.length
    rotate_left
    · refine awp_run rfl (by simp only [fwA, seval, gfw, bx, dx, bitfw, hc] <;> rfl) ?_
      refine awp_cond (b := false) (by simp [alook, aput, ev]) ?_
      refine awp_exit ?_
      rw [List.take_of_length_le (show K.length ≤ k by omega), ← hfin]
      exact ⟨(), trivial, by simp only [fwA, seval, gfw], rfl, rfl⟩
    have hk' : k < K.length := by omega
    obtain ⟨w, hy⟩ : ∃ w, K[k]? = some w := ⟨_, List.getElem?_eq_getElem hk'⟩
    have hts2 := take_snoc hy
    have hwk : IntKind.i64.wrap ((k : Int) + 1) = ((k + 1 : Nat) : Int) := wrapS k (by omega)
    have hw64 := hk64 w (List.mem_of_getElem? hy)
    have hIl := rawI_len (ns := ns) (us := us) (c := c) (v := v) (K.take k)
    rw [List.length_take, Nat.min_eq_left hk0] at hIl
    have hsn2 := rawI_snoc (ns := ns) (us := us) (c := c) (v := v) (l := K.take k) (w := w)
    rw [← hts2] at hsn2
    have h27 := c27 Γ c v w hl
    have h29w := c29 Γ ns us hw c hl ho w hw64
    have h57 := c57 Γ ns us hw (highV ns us c v) (lowV ns us c w)
    generalize rawI ns us c v (K.take k) = I at *
    generalize hI2 : rawI ns us c v (K.take (k + 1)) = I2 at *
    have hlen : (OB ++ I).length ≤ O.length + 2 + k := by rw [List.length_append]; omega
    unfold rawW at hsn2
    refine awp_run rfl (by simp only [fwA, seval, gfw, bx, dx, bitfw, hc] <;> rfl) ?_
    refine awp_cond (b := true) (by simp [alook, aput, ev]) ?_
    refine awp_skip ?_
    refine awp_seq ?_
    refine awp_block ?_
    refine awp_seq ?_
    by_cases hw0 : 0 ≤ w
    rotate_left
    · have e : I2 = I := by rw [hsn2]; simp [hw0]
      refine awp_drawn [0, 0, 0, 1, 0, 0, 0, 0, 0, 0, 0, 1, 0, 0, 0, 1, 0, 1, 0, 0, 0, 0, 1, 0, 0, 0, 0] [0, 0, 3, 7, 15, 31, 63, 63, 63, 63, 831, 1855, 4095, 8191, 16383, 32767, 32767, 32767, 32767, 32767, 32767, 1605631, 3702783, 8290303, 16777215, 33554431, 67108863] mixed rfl (by kernel_rfl) ?_
      refine dops_run 13 (by simp only [fwA, seval, gfw, bx, dx, bitfw, hy, hw0] <;> rfl) ?_
      refine dops_run 13 (by simp only [fwA, seval, gfw, bx, dx, bitfw, hy, hw0] <;> rfl) ?_
      refine dops_run 1 (by simp only [fwA, seval, gfw, bx, dx, bitfw, hy, hw0] <;> rfl) ?_
      refine dops_end ?_
      refine awp_cond (b := false) (by simp [alook, aput, ev]) (awp_skip ?_)
      refine awp_run rfl (by simp only [fwA, seval] <;> rfl) ?_
      exact ⟨k + 1, by omega, by omega, by simp only [fwA, seval, gfw, hwk, hI2, e], by rw [hI2, e], rfl⟩
    cases hr : rchB c v w
    · have e : I2 = I := by rw [hsn2]; simp [hr]
      rw [hr] at h27
      refine awp_drawn [0, 0, 0, 1, 0, 0, 0, 0, 0, 0, 0, 1, 0, 0, 0, 1, 0, 1, 0, 0, 0, 0, 1, 0, 0, 0, 0] [0, 0, 3, 7, 15, 31, 63, 63, 63, 63, 831, 1855, 4095, 8191, 16383, 32767, 32767, 32767, 32767, 32767, 32767, 1605631, 3702783, 8290303, 16777215, 33554431, 67108863] mixed rfl (by kernel_rfl) ?_
      refine dops_run 12 (by simp only [fwA, seval, gfw, bx, dx, bitfw, hy, hw0] <;> rfl) ?_
      refine dops_fn rfl (by simp only [fwA, seval] <;> rfl) rfl rfl en27 h27 ?_
      refine dops_run 13 (by simp only [fwA, seval, gfw, bx, dx, bitfw, hy, hw0] <;> rfl) ?_
      refine dops_run 1 (by simp only [fwA, seval, gfw, bx, dx, bitfw, hy, hw0] <;> rfl) ?_
      refine dops_end ?_
      refine awp_cond (b := false) (by simp [alook, aput, ev]) (awp_skip ?_)
      refine awp_run rfl (by simp only [fwA, seval] <;> rfl) ?_
      exact ⟨k + 1, by omega, by omega, by simp only [fwA, seval, gfw, hwk, hI2, e], by rw [hI2, e], rfl⟩
    rw [hr] at h27
    cases hq : leqB (min ns.length us.length) us (highV ns us c v) (lowV ns us c w)
    · have e : I2 = I ++ [⟨v, w⟩] := by rw [hsn2]; simp [hw0, hr, hq]
      rw [hq] at h57
      refine awp_drawn [0, 0, 0, 1, 0, 0, 0, 0, 0, 0, 0, 1, 0, 0, 0, 1, 0, 1, 0, 0, 0, 0, 1, 0, 0, 0, 0] [0, 0, 3, 7, 15, 31, 63, 63, 63, 63, 831, 1855, 4095, 8191, 16383, 32767, 32767, 32767, 32767, 32767, 32767, 1605631, 3702783, 8290303, 16777215, 33554431, 67108863] mixed rfl (by kernel_rfl) ?_
      refine dops_run 12 (by simp only [fwA, seval, gfw, bx, dx, bitfw, hy, hw0] <;> rfl) ?_
      refine dops_fn rfl (by simp only [fwA, seval] <;> rfl) rfl rfl en27 h27 ?_
      refine dops_run 10 (by simp only [fwA, seval, gfw, bx, dx, bitfw, hy, hw0] <;> rfl) ?_
      refine dops_fn rfl (by simp only [fwA, seval] <;> rfl) rfl rfl en29 h29w ?_
      refine dops_fn rfl (by simp only [fwA, seval] <;> rfl) rfl rfl en57 h57 ?_
      refine dops_run 2 (by simp only [fwA, seval, gfw, bx, dx, bitfw, hy, hw0] <;> rfl) ?_
      refine dops_end ?_
      refine awp_cond (b := true) (by simp [alook, aput, ev]) ?_
      refine awp_region rfl ?_
      refine aops_run 8 (by simp only [fwA, seval, gfw, bx, dx, bitfw, hy] <;> rfl) ?_
      refine aops_push (enc := Pr.enc) (l := OB ++ I) (z := ⟨v, w⟩) Pr.enc_len rfl rfl un32 ti86 rfl un32 rfl (by simp [Fw.get_at]) rfl rfl (by show ((OB ++ I).length + 1) * 16 ≤ _; omega) (by omega) rfl ?_
      refine aops_run 1 (by simp only [fwA, seval, gfw, bx, dx, bitfw, hy] <;> rfl) ?_
      refine aops_end ?_
      refine awp_run rfl (by simp only [fwA, seval] <;> rfl) ?_
      refine ⟨k + 1, by omega, by omega, by simp only [fwA, seval, gfw, hwk, hI2, e, List.length_append, List.length_cons, List.length_nil, Nat.add_assoc], ?_, rfl⟩
      simp [hI2, e, Fw.set_at]
    · have e : I2 = I := by rw [hsn2]; simp [hq]
      rw [hq] at h57
      refine awp_drawn [0, 0, 0, 1, 0, 0, 0, 0, 0, 0, 0, 1, 0, 0, 0, 1, 0, 1, 0, 0, 0, 0, 1, 0, 0, 0, 0] [0, 0, 3, 7, 15, 31, 63, 63, 63, 63, 831, 1855, 4095, 8191, 16383, 32767, 32767, 32767, 32767, 32767, 32767, 1605631, 3702783, 8290303, 16777215, 33554431, 67108863] mixed rfl (by kernel_rfl) ?_
      refine dops_run 12 (by simp only [fwA, seval, gfw, bx, dx, bitfw, hy, hw0] <;> rfl) ?_
      refine dops_fn rfl (by simp only [fwA, seval] <;> rfl) rfl rfl en27 h27 ?_
      refine dops_run 10 (by simp only [fwA, seval, gfw, bx, dx, bitfw, hy, hw0] <;> rfl) ?_
      refine dops_fn rfl (by simp only [fwA, seval] <;> rfl) rfl rfl en29 h29w ?_
      refine dops_fn rfl (by simp only [fwA, seval] <;> rfl) rfl rfl en57 h57 ?_
      refine dops_run 2 (by simp only [fwA, seval, gfw, bx, dx, bitfw, hy, hw0] <;> rfl) ?_
      refine dops_end ?_
      refine awp_cond (b := false) (by simp [alook, aput, ev]) (awp_skip ?_)
      refine awp_run rfl (by simp only [fwA, seval] <;> rfl) ?_
      exact ⟨k + 1, by omega, by omega, by simp only [fwA, seval, gfw, hwk, hI2, e], by rw [hI2, e], rfl⟩
  refine awp_run rfl (by simp only [fwA, seval] <;> rfl) ?_
  exact ⟨i + 1, by omega, by omega, by simp only [fwA, seval, gfw, hwi, hO2], by rw [hO2], rfl⟩
end Go.Proofs.YteicbhkimepbaaaGreatDoor
namespace Go.Proofs.YteicbhkimepbaaaGreatDoor
set_option linter.unusedVariables false
set_option linter.unusedSimpArgs false
set_option maxRecDepth 100000
open Go.RowKit Fw
def ptV (n : Nat) (a : Int) : Int := if a < 0 then -1 - (-1 - a).tmod (n : Int) else a.tmod 8
end Go.Proofs.YteicbhkimepbaaaGreatDoor
namespace Go.Proofs.YteicbhkimepbaaaGreatDoor
set_option linter.unusedVariables false
set_option linter.unusedSimpArgs false
set_option maxRecDepth 100000
open Go.RowKit Fw
def ptP (n : Nat) (p : Pr) : Pr := ⟨ptV n p.a, ptV n p.b⟩
def ptsV (n : Nat) (c : List Pr) : List Pr := (c.take 30).map (ptP n)
end Go.Proofs.YteicbhkimepbaaaGreatDoor
namespace Go.Proofs.YteicbhkimepbaaaGreatDoor
set_option linter.unusedVariables false
set_option linter.unusedSimpArgs false
set_option maxRecDepth 100000
open Go.RowKit Fw
def latsV : List (List (List UInt8) × List Nat) := [([[80]], [1]), ([[76, 111], [72, 105]], [3, 2]), ([[72, 105], [76, 111]], [1, 3]), ([[76], [65], [66], [72]], [15, 10, 12, 8]), ([[76], [77], [72]], [7, 6, 4]), ([[76], [65], [66], [67], [72]], [31, 18, 20, 24, 16])]
def laE (f : Bool) (x : List (List UInt8) × List Nat) : List PV := [.vec (x.1.map S1) f, .vec (x.2.map U1) f]
theorem laE_le (x : List (List UInt8) × List Nat) : PV.leL (laE true x) (laE false x) := ⟨⟨nofun, PV.leLL_refl _⟩, ⟨nofun, PV.leLL_refl _⟩, trivial⟩
theorem laE_leL : ∀ l : List (List (List UInt8) × List Nat), PV.leLL (l.map (laE true)) (l.map (laE false))
  | [] => trivial
  | x :: l => ⟨laE_le x, laE_leL l⟩
set_option maxHeartbeats 4000000 in
theorem c38 (Γ : Nat → PV) : Gives Tryz.prog Γ 38 [] (.vec (latsV.map (laE false)) false) := by
  refine (show Gives Tryz.prog Γ 38 [] (.vec (latsV.map (laE true)) true) from ?_).res ⟨nofun, laE_leL latsV⟩
  refine fn_of_awp Tryz.func38 rfl (by simp [Tryz.f38]) rfl fun H => ?_
  refine awp_seq ?_
  refine awp_run rfl (by simp only [fwA, seval] <;> rfl) ?_
  refine awp_seq ?_
  refine awp_run rfl (by simp only [fwA, seval, gfw, bx, dx, bitfw] <;> rfl) ?_
  refine awp_ret ?_
  exact gives_end0 (.inl rfl) (by simp [ares, aresL, ares1, Tryz.f38, alook, ev, latsV, laE, S1, U1])
end Go.Proofs.YteicbhkimepbaaaGreatDoor
namespace Go.Proofs.YteicbhkimepbaaaGreatDoor
set_option linter.unusedVariables false
set_option linter.unusedSimpArgs false
set_option maxRecDepth 100000
open Go.RowKit Fw
def duN : List (List UInt8) := [[76, 111], [72, 105]]
def duU : List Nat := [3, 2]
theorem du_right : rightB duN duU = true := by kernel_rfl
theorem pts_of {n : Nat} {c : List Pr} (h : (c.all fun p => (decide (0 ≤ p.a) || decide ((-1 - p.a).toNat < n)) && (decide (0 ≤ p.b) || decide ((-1 - p.b).toNat < n))) = true) : PtsOk n c := fun p hp => by
  rw [List.all_eq_true] at h
  have := h p hp
  simp only [Bool.and_eq_true, Bool.or_eq_true, decide_eq_true_eq] at this
  omega
theorem du_known {c : List Pr} (h : (c.all fun p => (decide (0 ≤ p.a) || decide ((-1 - p.a).toNat < 2)) && (decide (0 ≤ p.b) || decide ((-1 - p.b).toNat < 2))) = true) : knownB duN duU c = true := known_spec.2 ⟨du_right, pts_of h⟩
theorem low_at_known {ns : List (List UInt8)} {us : List Nat} {c : List Pr} (hk : knownB ns us c = true) (a : Int) : lowV ns us c a = boundV ns.length (joinV ns us) (botV ns us) (flp c) a := by unfold lowV; rw [if_pos hk]
theorem high_at_known {ns : List (List UInt8)} {us : List Nat} {c : List Pr} (hk : knownB ns us c = true) (a : Int) : highV ns us c a = boundV ns.length (meetV ns us) (topV ns us) c a := by unfold highV; rw [if_pos hk]
def projC (ns : List (List UInt8)) (us : List Nat) (c : List Pr) (K : List Int) (v : Int) : List Pr :=
  (if boundV ns.length (joinV ns us) (botV ns us) (flp c) v = botV ns us then [] else [⟨-1 - boundV ns.length (joinV ns us) (botV ns us) (flp c) v, v⟩]) ++ ((if boundV ns.length (meetV ns us) (topV ns us) c v = topV ns us then [] else [⟨v, -1 - boundV ns.length (meetV ns us) (topV ns us) c v⟩]) ++
    ((abv c v).filter fun w => K.contains w && !leqB (min ns.length us.length) us (boundV ns.length (meetV ns us) (topV ns us) c v) (boundV ns.length (joinV ns us) (botV ns us) (flp c) w)).map fun w => ⟨v, w⟩)
theorem projO_C {ns : List (List UInt8)} {us : List Nat} {c : List Pr} (hk : knownB ns us c = true) (K : List Int) : projO ns us c K = projC ns us c K := by
  funext v
  unfold projO projC
  simp only [low_at_known hk, high_at_known hk]
theorem projV_one {ns : List (List UInt8)} {us : List Nat} {c : List Pr} {K : List Int} {raw : List Pr} {p : Pr} (hk : knownB ns us c = true) (h : (keepV K).flatMap (projC ns us c (keepV K)) = raw) (hp : ∀ x, x ∈ [p] ↔ x ∈ raw ∧ x.a ≠ x.b) : projV ns us c K = [p] := by
  unfold projV
  rw [if_pos hk, projO_C hk, h]
  refine normL_is (by simp) fun x => ?_
  rw [unl_iff]
  exact hp x
theorem ex_p : projV duN duU [⟨0, 1⟩, ⟨1, 2⟩] [0, 2] = [⟨0, 2⟩] := projV_one (raw := [⟨0, 0⟩, ⟨0, 2⟩, ⟨2, 2⟩]) (du_known (by kernel_rfl)) (by kernel_rfl) (fun x => by
  simp only [List.mem_cons, List.not_mem_nil, or_false]
  constructor
  · rintro rfl; exact ⟨.inr (.inl rfl), by decide⟩
  · rintro ⟨rfl | rfl | rfl, h⟩
    · exact absurd rfl h
    · rfl
    · exact absurd rfl h)
theorem ex_q : projV duN duU [⟨-2, 1⟩, ⟨1, 2⟩, ⟨0, 2⟩] [2, 0] = [⟨-2, 2⟩] := projV_one (raw := [⟨-2, 2⟩, ⟨0, 0⟩]) (du_known (by kernel_rfl)) (by kernel_rfl) (fun x => by
  simp only [List.mem_cons, List.not_mem_nil, or_false]
  constructor
  · rintro rfl; exact ⟨.inl rfl, by decide⟩
  · rintro ⟨rfl | rfl, h⟩
    · rfl
    · exact absurd rfl h)
theorem sat_pt {r : Nat → Nat → Bool} {τ : Int → Nat} {a b : Int} (h : satP r τ ⟨a, b⟩) : r (if a < 0 then (-1 - a).toNat else τ a) (if b < 0 then (-1 - b).toNat else τ b) = true := h
theorem ex_s : leastV duN duU [⟨-2, 2⟩] = ([⟨2, 1⟩], true) := by
  have hv : gath gV [⟨-2, 2⟩] = [2] := by
    unfold gath
    exact onceI_is (by decide) (fun x => by simp [outsP, outs, gV])
  refine leastV_eq (.inr ⟨du_known (by kernel_rfl), .inl ⟨fun v => if v = 2 then 1 else 0, ⟨fun v => ?_, ?_⟩, ⟨fun v => ?_, fun τ ht v => ?_⟩, by unfold solL; rw [hv]; kernel_rfl⟩⟩)
  · show (if v = 2 then 1 else 0) < 2; split <;> decide
  · intro p hp
    rw [List.mem_singleton] at hp
    subst hp
    unfold satP; kernel_rfl
  · show (if v = 2 then 1 else 0) < 2; split <;> decide
  · have h0 : lq duU 1 (τ 2) = true := by simpa using sat_pt (ht.2 ⟨-2, 2⟩ (by simp))
    show lq duU (if v = 2 then 1 else 0) (τ v) = true
    split
    · rename_i e; rw [e]; exact h0
    · have := ht.1 v
      have hb : ∀ x : Fin 2, lq duU 0 x = true := by decide +kernel
      exact hb ⟨τ v, this⟩
def duC : List Pr := [⟨0, -2⟩, ⟨-2, 1⟩]
theorem du_k : knownB duN duU duC = true := du_known (by kernel_rfl)
theorem ex_l1 : lowV duN duU duC 1 = 1 := by rw [low_at_known du_k]; kernel_rfl
theorem ex_l0 : lowV duN duU duC 0 = 0 := by rw [low_at_known du_k]; kernel_rfl
theorem ex_l8 : lowV duN duU duC (-8) = -1 := by rw [low_at_known du_k]; kernel_rfl
theorem ex_h0 : highV duN duU duC 0 = 1 := by rw [high_at_known du_k]; kernel_rfl
theorem ex_e : entV duN duU duC 0 1 = true := by
  unfold entV
  rw [du_k, du_known (c := [⟨0, 1⟩]) (by kernel_rfl), ex_l1, ex_h0]
  kernel_rfl
end Go.Proofs.YteicbhkimepbaaaGreatDoor
namespace Go.Proofs.YteicbhkimepbaaaGreatDoor
set_option linter.unusedVariables false
set_option linter.unusedSimpArgs false
set_option maxRecDepth 100000
open Go.RowKit Fw
theorem du_w64 : W64 duU := fun x hx => by simp [duU] at hx; omega
theorem le_1 (es : List (List PV)) : PV.le (.vec es true) (.vec es false) := ⟨nofun, PV.leLL_refl _⟩
set_option maxHeartbeats 8000000 in
theorem c23 (Γ : Nat → PV) (hΓ : Tab64 Γ) : Gives Tryz.prog Γ 23 [] (.bool true) := by
  have h38 := c38 Γ
  have hget : (latsV.map (laE false))[1]? = some [.vec (duN.map S1) false, .vec (duU.map U1) false] := rfl
  have hlen : latsV.length = 6 := rfl
  have okc : ∀ c : List Pr, (c.all fun p => decide (-100 ≤ p.a) && decide (p.a ≤ 100) && decide (-100 ≤ p.b) && decide (p.b ≤ 100)) = true → OkP c := fun c h p hp => by
    rw [List.all_eq_true] at h
    have := h p hp
    simp only [Bool.and_eq_true, decide_eq_true_eq] at this
    exact ⟨⟨by omega, by omega⟩, ⟨by omega, by omega⟩⟩
  have h47a : Gives Tryz.prog Γ 47 [.int .i64 1] (.int .i64 (-2)) := c47 Γ 1 ⟨by decide, by decide⟩
  have h47b : Gives Tryz.prog Γ 47 [.int .i64 7] (.int .i64 (-8)) := c47 Γ 7 ⟨by decide, by decide⟩
  have k02 : ∀ v ∈ ([0, 2] : List Int), I64 v := fun v hv => by
    simp only [List.mem_cons, List.not_mem_nil, or_false] at hv
    exact ⟨by omega, by omega⟩
  have k20 : ∀ v ∈ ([2, 0] : List Int), I64 v := fun v hv => by
    simp only [List.mem_cons, List.not_mem_nil, or_false] at hv
    exact ⟨by omega, by omega⟩
  have h35a := c35 Γ hΓ duN duU du_w64 [⟨0, 1⟩, ⟨1, 2⟩] (by decide) (okc _ (by kernel_rfl)) [0, 2] k02 (by decide)
  have h35b := c35 Γ hΓ duN duU du_w64 [⟨-2, 1⟩, ⟨1, 2⟩, ⟨0, 2⟩] (by decide) (okc _ (by kernel_rfl)) [2, 0] k20 (by decide)
  rw [ex_p] at h35a
  rw [ex_q] at h35b
  have h35a := h35a.args (args := [.agg [.vec (duN.map S1) false, .vec (duU.map U1) false], .vec [(⟨0, 1⟩ : Pr).enc, (⟨1, 2⟩ : Pr).enc] true, .vec [I1 0, I1 2] true]) ⟨PV.le_refl _, le_1 _, le_1 _, trivial⟩
  have h35b := h35b.args (args := [.agg [.vec (duN.map S1) false, .vec (duU.map U1) false], .vec [(⟨-2, 1⟩ : Pr).enc, (⟨1, 2⟩ : Pr).enc, (⟨0, 2⟩ : Pr).enc] true, .vec [I1 2, I1 0] true]) ⟨PV.le_refl _, le_1 _, le_1 _, trivial⟩
  have h14 := c14 Γ hΓ duN duU du_w64 [⟨-2, 2⟩] (by decide) (okc _ (by kernel_rfl))
  rw [ex_s] at h14
  have h26a := c26 Γ [⟨0, 2⟩] 0 2 (by decide)
  rw [show rchB [⟨0, 2⟩] 0 2 = true by kernel_rfl] at h26a
  have h26b := c26 Γ [⟨0, 2⟩] 2 0 (by decide)
  rw [show rchB [⟨0, 2⟩] 2 0 = false by kernel_rfl] at h26b
  have h26c := (c26 Γ [] 5 5 (by decide)).args (args := [.vec [] true, .int .i64 5, .int .i64 5]) ⟨le_1 _, PV.le_refl _, PV.le_refl _, trivial⟩
  rw [show rchB [] 5 5 = true by kernel_rfl] at h26c
  have hdc : OkP duC := okc _ (by kernel_rfl)
  have h26d := (c26 Γ duC 0 1 (by decide)).args (args := [.vec [(⟨0, -2⟩ : Pr).enc, (⟨-2, 1⟩ : Pr).enc] true, .int .i64 0, .int .i64 1]) ⟨le_1 _, PV.le_refl _, PV.le_refl _, trivial⟩
  rw [show rchB duC 0 1 = false by kernel_rfl] at h26d
  have h32 := (c32 Γ hΓ duN duU du_w64 duC (by decide) hdc 0 1 ⟨by decide, by decide⟩ ⟨by decide, by decide⟩).args (args := [.agg [.vec (duN.map S1) false, .vec (duU.map U1) false], .vec [(⟨0, -2⟩ : Pr).enc, (⟨-2, 1⟩ : Pr).enc] true, .int .i64 0, .int .i64 1]) ⟨PV.le_refl _, le_1 _, PV.le_refl _, PV.le_refl _, trivial⟩
  rw [ex_e] at h32
  have h28a := (c28 Γ hΓ duN duU du_w64 duC (by decide) hdc 1 ⟨by decide, by decide⟩).args (args := [.agg [.vec (duN.map S1) false, .vec (duU.map U1) false], .vec [(⟨0, -2⟩ : Pr).enc, (⟨-2, 1⟩ : Pr).enc] true, .int .i64 1]) ⟨PV.le_refl _, le_1 _, PV.le_refl _, trivial⟩
  rw [ex_l1] at h28a
  have h28b := (c28 Γ hΓ duN duU du_w64 duC (by decide) hdc 0 ⟨by decide, by decide⟩).args (args := [.agg [.vec (duN.map S1) false, .vec (duU.map U1) false], .vec [(⟨0, -2⟩ : Pr).enc, (⟨-2, 1⟩ : Pr).enc] true, .int .i64 0]) ⟨PV.le_refl _, le_1 _, PV.le_refl _, trivial⟩
  rw [ex_l0] at h28b
  have h28c := (c28 Γ hΓ duN duU du_w64 duC (by decide) hdc (-8) ⟨by decide, by decide⟩).args (args := [.agg [.vec (duN.map S1) false, .vec (duU.map U1) false], .vec [(⟨0, -2⟩ : Pr).enc, (⟨-2, 1⟩ : Pr).enc] true, .int .i64 (-8)]) ⟨PV.le_refl _, le_1 _, PV.le_refl _, trivial⟩
  rw [ex_l8] at h28c
  have h30 := (c30 Γ hΓ duN duU du_w64 duC (by decide) hdc 0 ⟨by decide, by decide⟩).args (args := [.agg [.vec (duN.map S1) false, .vec (duU.map U1) false], .vec [(⟨0, -2⟩ : Pr).enc, (⟨-2, 1⟩ : Pr).enc] true, .int .i64 0]) ⟨PV.le_refl _, le_1 _, PV.le_refl _, trivial⟩
  rw [ex_h0] at h30
  refine fn_of_awp Tryz.func23 rfl (by simp [Tryz.f23]) rfl fun H => ?_
  refine awp_seq ?_
  refine awp_run rfl (by simp only [fwA, seval] <;> rfl) ?_
  refine awp_seq ?_
  refine awp_region rfl ?_
  refine aops_fn rfl rfl rfl en38 h38 ?_
  refine aops_run 4 (by simp only [fwA, seval, gfw, bx, dx, bitfw, hget, hlen] <;> rfl) ?_
  refine aops_end ?_
  refine awp_seq ?_
  refine awp_region rfl ?_
  refine aops_fn rfl rfl rfl en47 h47a ?_
  refine aops_run 1 (by simp only [fwA, seval, gfw, bx, dx, bitfw] <;> rfl) ?_
  refine aops_end ?_
  refine awp_seq ?_
  refine awp_region rfl ?_
  refine aops_run 5 (by simp only [fwA, seval, gfw, bx, dx, bitfw, Pr.enc, I1] <;> rfl) ?_
  refine aops_fn rfl rfl rfl en35 h35a ?_
  refine aops_run 1 (by simp only [fwA, seval, gfw, bx, dx, bitfw, Pr.enc, I1] <;> rfl) ?_
  refine aops_end ?_
  refine awp_seq ?_
  refine awp_region rfl ?_
  refine aops_run 7 (by simp only [fwA, seval, gfw, bx, dx, bitfw, Pr.enc, I1] <;> rfl) ?_
  refine aops_fn rfl rfl rfl en35 h35b ?_
  refine aops_run 1 (by simp only [fwA, seval, gfw, bx, dx, bitfw, Pr.enc, I1] <;> rfl) ?_
  refine aops_end ?_
  refine awp_seq ?_
  refine awp_region rfl ?_
  refine aops_run 2 (by simp only [fwA, seval, gfw, bx, dx, bitfw, leastEnc] <;> rfl) ?_
  refine aops_fn rfl rfl rfl en14 h14 ?_
  refine aops_run 5 (by simp only [fwA, seval, gfw, bx, dx, bitfw, leastEnc] <;> rfl) ?_
  refine aops_end ?_
  refine awp_seq ?_
  refine awp_seq ?_
  refine awp_run rfl (by simp only [fwA, seval, gfw, bx, dx, bitfw] <;> rfl) ?_
  refine awp_cond (b := false) (by simp [alook, aput, ev]) (awp_skip ?_)
  refine awp_seq ?_
  refine awp_region rfl ?_
  refine aops_run 6 (by simp only [fwA, seval, gfw, bx, dx, bitfw, Pr.enc] <;> rfl) ?_
  refine aops_end ?_
  refine awp_seq ?_
  refine awp_drawn [0, 0, 1, 0, 0, 0, 0, 0, 1, 0, 0, 0, 0, 0, 0, 0, 0, 0, 0, 0, 1, 0, 0, 0, 0, 0, 0, 0, 0, 0, 0, 0, 0, 0, 0, 0, 0, 0, 0, 0, 0, 1, 0, 0, 0, 0, 1, 0, 0, 0, 0, 0, 1, 0, 0, 0, 0, 0, 1, 0, 0, 0, 0, 0, 1, 0, 0, 0, 0, 0, 0] [0, 1, 3, 0, 15, 31, 63, 127, 255, 63, 575, 2047, 4095, 8191, 16383, 32767, 65535, 131071, 262143, 524287, 1048575, 2097151, 4194303, 8388607, 16777215, 33554431, 67108863, 134217727, 268435455, 536870911, 1073741823, 2147483647, 4294967295, 8589934591, 17179869183, 34359738367, 68719476735, 137438953471, 274877906943, 549755813887, 1099511627775, 2199023255551, 2199023255551, 8796093022207, 17592186044415, 35184372088831, 70368744177663, 70368744177663, 281474976710655, 562949953421311, 1125899906842623, 2251799813685247, 4503599627370495, 4503599627370495, 18014398509481983, 36028797018963967, 72057594037927935, 144115188075855871, 288230376151711743, 288230376151711743, 1152921504606846975, 2305843009213693951, 4611686018427387903, 9223372036854775807, 18446744073709551615, 18446744073709551615, 18446744073709551615, 147573952589676412927, 295147905179352825855, 590295810358705651711, 1180591620717411303423] mixed rfl (by kernel_rfl) ?_
  refine dops_run 13 (by simp only [fwA, seval, gfw, bx, dx, bitfw, Pr.enc, So.enc] <;> rfl) ?_
  refine dops_run 12 (by simp only [fwA, seval, gfw, bx, dx, bitfw, Pr.enc, So.enc] <;> rfl) ?_
  refine dops_fn rfl (by simp only [fwA, seval] <;> rfl) rfl rfl en26 h26a ?_
  refine dops_run 3 (by simp only [fwA, seval, gfw, bx, dx, bitfw, Pr.enc, So.enc] <;> rfl) ?_
  refine dops_fn rfl (by simp only [fwA, seval] <;> rfl) rfl rfl en26 h26b ?_
  refine dops_run 3 (by simp only [fwA, seval, gfw, bx, dx, bitfw, Pr.enc, So.enc] <;> rfl) ?_
  refine dops_fn rfl (by simp only [fwA, seval] <;> rfl) rfl rfl en26 h26c ?_
  refine dops_run 3 (by simp only [fwA, seval, gfw, bx, dx, bitfw, Pr.enc, So.enc] <;> rfl) ?_
  refine dops_fn rfl (by simp only [fwA, seval] <;> rfl) rfl rfl en26 h26d ?_
  refine dops_run 5 (by simp only [fwA, seval, gfw, bx, dx, bitfw, Pr.enc, So.enc] <;> rfl) ?_
  refine dops_fn rfl (by simp only [fwA, seval] <;> rfl) rfl rfl en32 h32 ?_
  refine dops_run 4 (by simp only [fwA, seval, gfw, bx, dx, bitfw, Pr.enc, So.enc] <;> rfl) ?_
  refine dops_fn rfl (by simp only [fwA, seval] <;> rfl) rfl rfl en28 h28a ?_
  refine dops_run 5 (by simp only [fwA, seval, gfw, bx, dx, bitfw, Pr.enc, So.enc] <;> rfl) ?_
  refine dops_fn rfl (by simp only [fwA, seval] <;> rfl) rfl rfl en30 h30 ?_
  refine dops_run 5 (by simp only [fwA, seval, gfw, bx, dx, bitfw, Pr.enc, So.enc] <;> rfl) ?_
  refine dops_fn rfl (by simp only [fwA, seval] <;> rfl) rfl rfl en28 h28b ?_
  refine dops_run 5 (by simp only [fwA, seval, gfw, bx, dx, bitfw, Pr.enc, So.enc] <;> rfl) ?_
  refine dops_fn rfl (by simp only [fwA, seval] <;> rfl) rfl rfl en47 h47b ?_
  refine dops_fn rfl (by simp only [fwA, seval] <;> rfl) rfl rfl en28 h28c ?_
  refine dops_run 3 (by simp only [fwA, seval, gfw, bx, dx, bitfw, Pr.enc, So.enc] <;> rfl) ?_
  refine dops_end ?_
  refine awp_ret ?_
  exact gives_end (.inl rfl) _ rfl
end Go.Proofs.YteicbhkimepbaaaGreatDoor
namespace Go.Proofs.YteicbhkimepbaaaGreatDoor
set_option linter.unusedVariables false
set_option linter.unusedSimpArgs false
set_option maxRecDepth 100000
open Go.RowKit Fw
theorem c25 (Γ : Nat → PV) (c : List Pr) (hl : c.length ≤ 1200000000000) : Gives Tryz.prog Γ 25 [.vec (c.map Pr.enc) false] (.vec (c.map Pr.enc) false) := by
  refine fn_of_awp Tryz.func25 rfl (by simp [Tryz.f25]) rfl fun H => ?_
  refine awp_seq ?_
  refine awp_run rfl (by simp only [fwA, seval] <;> rfl) ?_
  refine awp_seq ?_
  refine awp_run rfl (by simp only [fwA, seval] <;> rfl) ?_
  refine awp_told (told_adopt 3 2 (by decide) (by simp [alook])) ?_
  refine awp_heap (H' := H ++ [.row 2 (((c.take 0).map Pr.enc).flatten)]) (by simp) ?_
  refine awp_seq ?_
  refine awp_seq ?_
  refine awp_run rfl (by simp only [fwA, seval] <;> rfl) ?_
  refine awp_block ?_
  refine awp_for [0, 3, 4] (fun i : Nat => [.vec (c.map Pr.enc) false, .row H.length 0 i 2, .int .i64 (i : Int)]) (fun i => H ++ [.row 2 (((c.take i).map Pr.enc).flatten)]) (fun i => c.length - i) (fun i => i ≤ c.length) 0 rfl rfl (Nat.zero_le _) fun i hi => ?_
  refine awp_seq ?_
  refine awp_seq ?_
  by_cases hc : (i : Int) < c.length
  rotate_left
  · refine awp_run rfl (by simp only [fwA, seval, gfw, bx, dx, bitfw, Int.reduceEq, Int.reduceNeg, Int.reduceToNat, Int.reduceLE, Int.reduceLT, hc] <;> rfl) ?_
    refine awp_cond (b := false) (by simp [alook, aput, ev]) ?_
    refine awp_exit ?_
    rw [List.take_of_length_le (show c.length ≤ i by omega), show i = c.length by omega]
    refine awp_told (told_freezeAt H _ 0 (C := (c.map Pr.enc).flatten) rfl (flat_bd (fun t => by simp only [Pr.fw]) _)) ?_
    have hl2 := flat_len Pr.enc_len c
    have hch2 := flat_chunk Pr.enc_len c
    refine awp_keep (A' := [(3, .vec (c.map Pr.enc) false)]) [3] (by simp only [fwA, seval, gfw, akeep, hl2, hch2] <;> rfl) ?_
    refine awp_seq ?_
    refine awp_run rfl (by simp only [fwA, seval] <;> rfl) ?_
    refine awp_ret ?_
    exact gives_end (.inl rfl) _ rfl
  have hi' : i < c.length := by omega
  obtain ⟨z, hz⟩ : ∃ z, c[i]? = some z := ⟨_, List.getElem?_eq_getElem hi'⟩
  have hts := take_snoc hz
  have hwi : IntKind.i64.wrap ((i : Int) + 1) = ((i + 1 : Nat) : Int) := wrapS i (by omega)
  refine awp_run rfl (by simp only [fwA, seval, gfw, bx, dx, bitfw, Int.reduceEq, Int.reduceNeg, Int.reduceToNat, Int.reduceLE, Int.reduceLT, hc] <;> rfl) ?_
  refine awp_cond (b := true) (by simp [alook, aput, ev]) ?_
  refine awp_skip ?_
  refine awp_seq ?_
  refine awp_block ?_
  refine awp_drawn [0,0,0,0,0,0,0,0,0,0,0,0,0,2,0] [0, 0, 0, 6, 14, 30, 0, 0, 192, 448, 960, 2046, 4094, 8191, 16383] mixed rfl (by kernel_rfl) ?_
  refine dops_run 13 (by simp only [fwA, seval, gfw, bx, dx, bitfw, Int.reduceEq, Int.reduceNeg, Int.reduceToNat, Int.reduceLE, Int.reduceLT, hz] <;> rfl) ?_
  refine dops_push (enc := Pr.enc) (l := c.take i) (z := z) Pr.enc_len rfl rfl rfl un32 ti86 rfl un32 rfl (by simp [Fw.get_at0]) (by rw [List.length_take]; omega) rfl (by show (i + 1) * 16 ≤ _; omega) (by omega) rfl ?_
  refine dops_run 1 (by simp only [fwA, seval, gfw, bx, dx, bitfw, Int.reduceEq, Int.reduceNeg, Int.reduceToNat, Int.reduceLE, Int.reduceLT, hz] <;> rfl) ?_
  refine dops_end ?_
  refine awp_run rfl (by simp only [fwA, seval] <;> rfl) ?_
  refine ⟨i + 1, by omega, by omega, by simp only [fwA, seval, gfw, hwi], ?_, rfl⟩
  rw [hts]
theorem c37 (Γ : Nat → PV) (c : List Int) (hl : c.length ≤ 1200000000000) : Gives Tryz.prog Γ 37 [.vec (c.map I1) false] (.vec (c.map I1) false) := by
  refine fn_of_awp Tryz.func37 rfl (by simp [Tryz.f37]) rfl fun H => ?_
  refine awp_seq ?_
  refine awp_run rfl (by simp only [fwA, seval] <;> rfl) ?_
  refine awp_seq ?_
  refine awp_run rfl (by simp only [fwA, seval] <;> rfl) ?_
  refine awp_told (told_adopt 3 1 (by decide) (by simp [alook])) ?_
  refine awp_heap (H' := H ++ [.row 1 (((c.take 0).map I1).flatten)]) (by simp) ?_
  refine awp_seq ?_
  refine awp_seq ?_
  refine awp_run rfl (by simp only [fwA, seval] <;> rfl) ?_
  refine awp_block ?_
  refine awp_for [0, 3, 4] (fun i : Nat => [.vec (c.map I1) false, .row H.length 0 i 1, .int .i64 (i : Int)]) (fun i => H ++ [.row 1 (((c.take i).map I1).flatten)]) (fun i => c.length - i) (fun i => i ≤ c.length) 0 rfl rfl (Nat.zero_le _) fun i hi => ?_
  refine awp_seq ?_
  refine awp_seq ?_
  by_cases hc : (i : Int) < c.length
  rotate_left
  · refine awp_run rfl (by simp only [fwA, seval, gfw, bx, dx, bitfw, Int.reduceEq, Int.reduceNeg, Int.reduceToNat, Int.reduceLE, Int.reduceLT, hc] <;> rfl) ?_
    refine awp_cond (b := false) (by simp [alook, aput, ev]) ?_
    refine awp_exit ?_
    rw [List.take_of_length_le (show c.length ≤ i by omega), show i = c.length by omega]
    refine awp_told (told_freezeAt H _ 0 (C := (c.map I1).flatten) rfl (flat_bd (fun t => by simp only [I1_fw]) _)) ?_
    have hl2 := flat_len I1_fw.1 c
    have hch2 := flat_chunk I1_fw.1 c
    refine awp_keep (A' := [(3, .vec (c.map I1) false)]) [3] (by simp only [fwA, seval, gfw, akeep, hl2, hch2] <;> rfl) ?_
    refine awp_seq ?_
    refine awp_run rfl (by simp only [fwA, seval] <;> rfl) ?_
    refine awp_ret ?_
    exact gives_end (.inl rfl) _ rfl
  have hi' : i < c.length := by omega
  obtain ⟨z, hz⟩ : ∃ z, c[i]? = some z := ⟨_, List.getElem?_eq_getElem hi'⟩
  have hts := take_snoc hz
  have hwi : IntKind.i64.wrap ((i : Int) + 1) = ((i + 1 : Nat) : Int) := wrapS i (by omega)
  refine awp_run rfl (by simp only [fwA, seval, gfw, bx, dx, bitfw, Int.reduceEq, Int.reduceNeg, Int.reduceToNat, Int.reduceLE, Int.reduceLT, hc] <;> rfl) ?_
  refine awp_cond (b := true) (by simp [alook, aput, ev]) ?_
  refine awp_skip ?_
  refine awp_seq ?_
  refine awp_block ?_
  refine awp_region rfl ?_
  refine aops_run 6 (by simp only [fwA, seval, gfw, bx, dx, bitfw, Int.reduceEq, Int.reduceNeg, Int.reduceToNat, Int.reduceLE, Int.reduceLT, hz] <;> rfl) ?_
  refine aops_push (enc := I1) (l := c.take i) (z := z) I1_fw.1 rfl rfl un59 ti3 rfl un59 rfl (by simp [Fw.get_at0]) (by rw [List.length_take]; omega) rfl (by show (i + 1) * 8 ≤ _; omega) (by omega) rfl ?_
  refine aops_run 1 (by simp only [fwA, seval, gfw, bx, dx, bitfw, Int.reduceEq, Int.reduceNeg, Int.reduceToNat, Int.reduceLE, Int.reduceLT, hz] <;> rfl) ?_
  refine aops_end ?_
  refine awp_run rfl (by simp only [fwA, seval] <;> rfl) ?_
  refine ⟨i + 1, by omega, by omega, by simp only [fwA, seval, gfw, hwi], ?_, rfl⟩
  rw [hts]
theorem c34 (Γ : Nat → PV) (a : List Pr) (hl : a.length ≤ 1200000000000) : Gives Tryz.prog Γ 34 [.vec (a.map Pr.enc) false, .vec (a.map Pr.enc) false] (.bool true) := by
  have h25 := c25 Γ a hl
  refine fn_of_awp Tryz.func34 rfl (by simp [Tryz.f34]) rfl fun H => ?_
  refine awp_seq ?_
  refine awp_run rfl (by simp only [fwA, seval] <;> rfl) ?_
  refine awp_seq ?_
  refine awp_region rfl ?_
  refine aops_run 1 (by simp only [fwA, seval, gfw, bx, dx, bitfw, Int.reduceEq, Int.reduceNeg, Int.reduceToNat, Int.reduceLE, Int.reduceLT] <;> rfl) ?_
  refine aops_fn rfl rfl rfl en25 h25 ?_
  refine aops_run 1 (by simp only [fwA, seval, gfw, bx, dx, bitfw, Int.reduceEq, Int.reduceNeg, Int.reduceToNat, Int.reduceLE, Int.reduceLT] <;> rfl) ?_
  refine aops_end ?_
  refine awp_seq ?_
  refine awp_seq ?_
  refine awp_run rfl (by simp only [fwA, seval] <;> rfl) ?_
  refine awp_cond (b := false) (by simp [alook, aput, ev]) (awp_skip ?_)
  refine awp_seq ?_
  refine awp_seq ?_
  refine awp_run rfl (by simp only [fwA, seval] <;> rfl) ?_
  refine awp_block ?_
  refine awp_for [1, 4, 5, 6] (fun i : Nat => [.vec (a.map Pr.enc) false, .bool false, .vec (a.map Pr.enc) false, .int .i64 (i : Int)]) (fun _ => H) (fun i => a.length - i) (fun i => i ≤ a.length) 0 rfl rfl (Nat.zero_le _) fun i hi => ?_
  refine awp_seq ?_
  refine awp_seq ?_
  by_cases hc : (i : Int) < a.length
  rotate_left
  · refine awp_run rfl (by simp only [fwA, seval, gfw, bx, dx, bitfw, Int.reduceEq, Int.reduceNeg, Int.reduceToNat, Int.reduceLE, Int.reduceLT, hc] <;> rfl) ?_
    refine awp_cond (b := false) (by simp [alook, aput, ev]) ?_
    refine awp_exit ?_
    refine awp_seq ?_
    refine awp_run rfl (by simp only [fwA, seval] <;> rfl) ?_
    refine awp_ret ?_
    exact gives_end0 (.inl rfl) rfl
  have hi' : i < a.length := by omega
  obtain ⟨z, hz⟩ : ∃ z, a[i]? = some z := ⟨_, List.getElem?_eq_getElem hi'⟩
  have hwi : IntKind.i64.wrap ((i : Int) + 1) = ((i + 1 : Nat) : Int) := wrapS i (by omega)
  refine awp_run rfl (by simp only [fwA, seval, gfw, bx, dx, bitfw, Int.reduceEq, Int.reduceNeg, Int.reduceToNat, Int.reduceLE, Int.reduceLT, hc] <;> rfl) ?_
  refine awp_cond (b := true) (by simp [alook, aput, ev]) ?_
  refine awp_skip ?_
  refine awp_seq ?_
  refine awp_block ?_
  refine awp_seq ?_
  refine awp_drun [0, 0, 0, 1, 0, 0, 0, 1, 0] [0, 0, 3, 7, 0, 0, 48, 112, 255] mixed rfl (by kernel_rfl) (by simp only [fwA, seval, gfw, bx, dx, bitfw, Int.reduceEq, Int.reduceNeg, Int.reduceToNat, Int.reduceLE, Int.reduceLT, hz] <;> rfl) ?_
  refine awp_cond (b := false) (by simp [alook, aput, ev]) (awp_skip ?_)
  refine awp_run rfl (by simp only [fwA, seval] <;> rfl) ?_
  exact ⟨i + 1, by omega, by omega, by simp only [fwA, seval, gfw, hwi], rfl, rfl⟩
theorem take_mapX {X Y : Type} (f : X → Y) (l : List X) (n : Nat) : ((l.map f).drop 0).take (n - 0) = (l.take n).map f := by rw [List.drop_zero, Nat.sub_zero, List.map_take]
theorem min12 (n : Nat) : (if (12 : Int) < (n : Int) then 12 else (n : Int)) = ((min n 12 : Nat) : Int) := by split <;> omega
theorem proj_len {ns : List (List UInt8)} {us : List Nat} {c : List Pr} {K : List Int} : (projV ns us c K).length ≤ K.length * (c.length + 3) := by
  unfold projV
  split
  · exact Nat.le_trans (norm_len _) (Nat.le_trans (flatMap_le _ _ (fun v => projO_len ns us c (keepV K) v) _) (Nat.mul_le_mul_right _ (List.length_filter_le _ _)))
  · simp
set_option maxHeartbeats 16000000 in
theorem c4 (Γ : Nat → PV) (hΓ : Tab64 Γ) (ns : List (List UInt8)) (us : List Nat) (hw0 : W64 us) (c : List Pr) (hl : c.length ≤ 9000000) (ho : OkP c) (a b : Int) (ha : I64 a) (hb : I64 b) (K : List Int) (hk64 : ∀ v ∈ K, I64 v) (hK1 : K.length * (c.length + 3) ≤ 1000000000000) (hK2 : K.length * (K.length + 2) ≤ 1200000000000) (hK3 : K.length ≤ 9000000) : Gives Tryz.prog Γ 4 [.agg [.vec (ns.map S1) false, .vec (us.map U1) false], .vec (c.map Pr.enc) false, .int .i64 a, .int .i64 b, .vec (K.map I1) false] (.bool true) := by
  have h23 := c23 Γ hΓ
  have hw : W64 (us.take (min us.length 12)) := fun x hx => hw0 x (List.mem_of_mem_take hx)
  have h24 := c24 Γ (ns.take (min ns.length 12)) (us.take (min us.length 12))
  have h25 := c25 Γ c (by omega)
  have h26 := c26 Γ c a b (by omega)
  have h27 := c27 Γ c a b (by omega)
  have h28 := c28 Γ hΓ (ns.take (min ns.length 12)) (us.take (min us.length 12)) hw c (by omega) ho a ha
  have h29 := c29 Γ (ns.take (min ns.length 12)) (us.take (min us.length 12)) hw c (by omega) ho a ha
  have h30 := c30 Γ hΓ (ns.take (min ns.length 12)) (us.take (min us.length 12)) hw c (by omega) ho a ha
  have h31 := c31 Γ (ns.take (min ns.length 12)) (us.take (min us.length 12)) hw c (by omega) ho a ha
  have h32 := c32 Γ hΓ (ns.take (min ns.length 12)) (us.take (min us.length 12)) hw c (by omega) ho a b ha hb
  have h33 := c33 Γ (ns.take (min ns.length 12)) (us.take (min us.length 12)) hw c (by omega) ho a b ha hb
  have h35 := c35 Γ hΓ (ns.take (min ns.length 12)) (us.take (min us.length 12)) hw c (by omega) ho K hk64 hK1
  have h36 := c36 Γ (ns.take (min ns.length 12)) (us.take (min us.length 12)) hw c (by omega) ho K hk64 hK2
  have h37 := c37 Γ K (by omega)
  have hpl := proj_len (ns := ns.take (min ns.length 12)) (us := us.take (min us.length 12)) (c := c) (K := K)
  have h34 := c34 Γ (projV (ns.take (min ns.length 12)) (us.take (min us.length 12)) c K) (by omega)
  generalize projV (ns.take (min ns.length 12)) (us.take (min us.length 12)) c K = Z at *
  generalize rchB c a b = r1 at *
  generalize lowV (ns.take (min ns.length 12)) (us.take (min us.length 12)) c a = r2 at *
  generalize highV (ns.take (min ns.length 12)) (us.take (min us.length 12)) c a = r3 at *
  generalize entV (ns.take (min ns.length 12)) (us.take (min us.length 12)) c a b = r4 at *
  refine fn_of_awp Tryz.func4 rfl (by simp [Tryz.f4]) rfl fun H => ?_
  refine awp_seq ?_
  refine awp_run rfl (by simp only [fwA, seval, gfw, bx, dx, bitfw, Int.reduceEq, Int.reduceNeg, Int.reduceToNat, Int.reduceLE, Int.reduceLT] <;> rfl) ?_
  refine awp_seq ?_
  refine awp_region rfl ?_
  refine aops_fn rfl rfl rfl en23 h23 ?_
  refine aops_run 1 (by simp only [fwA, seval, gfw, bx, dx, bitfw, Int.reduceEq, Int.reduceNeg, Int.reduceToNat, Int.reduceLE, Int.reduceLT] <;> rfl) ?_
  refine aops_end ?_
  refine awp_seq ?_
  refine awp_seq ?_
  refine awp_run rfl (by simp only [fwA, seval] <;> rfl) ?_
  refine awp_cond (b := false) (by simp [alook, aput, ev]) (awp_skip ?_)
  refine awp_seq ?_
  refine awp_region rfl ?_
  refine aops_run 5 (by simp only [fwA, seval, gfw, bx, dx, bitfw, Int.reduceEq, Int.reduceNeg, Int.reduceToNat, Int.reduceLE, Int.reduceLT] <;> rfl) ?_
  refine aops_one rfl (os_min rfl rfl rfl ?_)
  refine aops_one rfl (os_sliceVec (l := 0) (h := min ns.length 12) (es := ns.map S1) (f := false) rfl el22 rfl (fun e he => by obtain ⟨x, _, rfl⟩ := List.mem_map.1 he; rfl) rfl ⟨_, congrArg (PV.int .i64) (min12 ns.length)⟩ trivial (Nat.zero_le _) (by rw [List.length_map]; omega) ?_)
  rw [take_mapX]
  refine aops_run 2 (by simp only [fwA, seval, gfw, bx, dx, bitfw, Int.reduceEq, Int.reduceNeg, Int.reduceToNat, Int.reduceLE, Int.reduceLT] <;> rfl) ?_
  refine aops_end ?_
  refine awp_seq ?_
  refine awp_region rfl ?_
  refine aops_run 5 (by simp only [fwA, seval, gfw, bx, dx, bitfw, Int.reduceEq, Int.reduceNeg, Int.reduceToNat, Int.reduceLE, Int.reduceLT] <;> rfl) ?_
  refine aops_one rfl (os_min rfl rfl rfl ?_)
  refine aops_one rfl (os_sliceVec (l := 0) (h := min us.length 12) (es := us.map U1) (f := false) rfl el23 rfl (fun e he => by obtain ⟨x, _, rfl⟩ := List.mem_map.1 he; rfl) rfl ⟨_, congrArg (PV.int .i64) (min12 us.length)⟩ trivial (Nat.zero_le _) (by rw [List.length_map]; omega) ?_)
  rw [take_mapX]
  refine aops_run 2 (by simp only [fwA, seval, gfw, bx, dx, bitfw, Int.reduceEq, Int.reduceNeg, Int.reduceToNat, Int.reduceLE, Int.reduceLT] <;> rfl) ?_
  refine aops_end ?_
  refine awp_seq ?_
  refine awp_region rfl ?_
  refine aops_run 1 (by simp only [fwA, seval, gfw, bx, dx, bitfw, Int.reduceEq, Int.reduceNeg, Int.reduceToNat, Int.reduceLE, Int.reduceLT] <;> rfl) ?_
  refine aops_fn rfl rfl rfl en24 h24 ?_
  refine aops_run 2 (by simp only [fwA, seval, gfw, bx, dx, bitfw, Int.reduceEq, Int.reduceNeg, Int.reduceToNat, Int.reduceLE, Int.reduceLT] <;> rfl) ?_
  refine aops_end ?_
  refine awp_seq ?_
  refine awp_region rfl ?_
  refine aops_run 1 (by simp only [fwA, seval, gfw, bx, dx, bitfw, Int.reduceEq, Int.reduceNeg, Int.reduceToNat, Int.reduceLE, Int.reduceLT] <;> rfl) ?_
  refine aops_fn rfl rfl rfl en25 h25 ?_
  refine aops_run 1 (by simp only [fwA, seval, gfw, bx, dx, bitfw, Int.reduceEq, Int.reduceNeg, Int.reduceToNat, Int.reduceLE, Int.reduceLT] <;> rfl) ?_
  refine aops_end ?_
  refine awp_seq ?_
  refine awp_run rfl (by simp only [fwA, seval] <;> rfl) ?_
  refine awp_seq ?_
  refine awp_run rfl (by simp only [fwA, seval] <;> rfl) ?_
  refine awp_seq ?_
  refine awp_drawn [0, 0, 0, 0, 0, 0, 0, 0, 0, 0, 0, 0, 0, 1, 0, 0, 0, 1, 0, 0, 0, 0, 0, 0, 1, 0, 0, 0, 1, 0, 0, 0, 0, 0, 0, 1, 0, 0, 0, 0, 1, 0, 0, 0, 0, 0, 0, 0, 1, 0, 0, 0, 1, 0, 0, 0, 0, 0, 0, 0] [0, 1, 3, 3, 3, 31, 3, 3, 3, 511, 1023, 2047, 4095, 8191, 8191, 8191, 65535, 8191, 8191, 8191, 1048575, 2097151, 4194303, 8388607, 16777215, 16777215, 16777215, 134217727, 16777215, 16777215, 16777215, 2147483647, 4294967295, 8589934591, 17179869183, 34359738367, 34359738367, 34359738367, 34359738367, 549755813887, 34359738367, 34359738367, 34359738367, 34359738367, 17592186044415, 35184372088831, 70368744177663, 140737488355327, 281474976710655, 281474976710655, 281474976710655, 2251799813685247, 281474976710655, 281474976710655, 281474976710655, 22517998136852479, 72057594037927935, 144115188075855871, 288230376151711743, 576460752303423487] mixed rfl (by kernel_rfl) ?_
  refine dops_run 5 (by simp only [fwA, seval, gfw, bx, dx, bitfw, Int.reduceEq, Int.reduceNeg, Int.reduceToNat, Int.reduceLE, Int.reduceLT] <;> rfl) ?_
  refine dops_fn rfl (by simp only [fwA, seval] <;> rfl) rfl rfl en26 h26 ?_
  refine dops_run 3 (by simp only [fwA, seval, gfw, bx, dx, bitfw, Int.reduceEq, Int.reduceNeg, Int.reduceToNat, Int.reduceLE, Int.reduceLT] <;> rfl) ?_
  refine dops_fn rfl (by simp only [fwA, seval] <;> rfl) rfl rfl en27 h27 ?_
  refine dops_run 6 (by simp only [fwA, seval, gfw, bx, dx, bitfw, Int.reduceEq, Int.reduceNeg, Int.reduceToNat, Int.reduceLE, Int.reduceLT] <;> rfl) ?_
  refine dops_fn rfl (by simp only [fwA, seval] <;> rfl) rfl rfl en28 h28 ?_
  refine dops_run 3 (by simp only [fwA, seval, gfw, bx, dx, bitfw, Int.reduceEq, Int.reduceNeg, Int.reduceToNat, Int.reduceLE, Int.reduceLT] <;> rfl) ?_
  refine dops_fn rfl (by simp only [fwA, seval] <;> rfl) rfl rfl en29 h29 ?_
  refine dops_run 6 (by simp only [fwA, seval, gfw, bx, dx, bitfw, Int.reduceEq, Int.reduceNeg, Int.reduceToNat, Int.reduceLE, Int.reduceLT] <;> rfl) ?_
  refine dops_fn rfl (by simp only [fwA, seval] <;> rfl) rfl rfl en30 h30 ?_
  refine dops_run 3 (by simp only [fwA, seval, gfw, bx, dx, bitfw, Int.reduceEq, Int.reduceNeg, Int.reduceToNat, Int.reduceLE, Int.reduceLT] <;> rfl) ?_
  refine dops_fn rfl (by simp only [fwA, seval] <;> rfl) rfl rfl en31 h31 ?_
  refine dops_run 7 (by simp only [fwA, seval, gfw, bx, dx, bitfw, Int.reduceEq, Int.reduceNeg, Int.reduceToNat, Int.reduceLE, Int.reduceLT] <;> rfl) ?_
  refine dops_fn rfl (by simp only [fwA, seval] <;> rfl) rfl rfl en32 h32 ?_
  refine dops_run 4 (by simp only [fwA, seval, gfw, bx, dx, bitfw, Int.reduceEq, Int.reduceNeg, Int.reduceToNat, Int.reduceLE, Int.reduceLT] <;> rfl) ?_
  refine dops_fn rfl (by simp only [fwA, seval] <;> rfl) rfl rfl en33 h33 ?_
  refine dops_run 6 (by simp only [fwA, seval, gfw, bx, dx, bitfw, Int.reduceEq, Int.reduceNeg, Int.reduceToNat, Int.reduceLE, Int.reduceLT] <;> rfl) ?_
  refine dops_fn rfl (by simp only [fwA, seval] <;> rfl) rfl rfl en35 h35 ?_
  refine dops_run 3 (by simp only [fwA, seval, gfw, bx, dx, bitfw, Int.reduceEq, Int.reduceNeg, Int.reduceToNat, Int.reduceLE, Int.reduceLT] <;> rfl) ?_
  refine dops_fn rfl (by simp only [fwA, seval] <;> rfl) rfl rfl en37 h37 ?_
  refine dops_fn rfl (by simp only [fwA, seval] <;> rfl) rfl rfl en36 h36 ?_
  refine dops_fn rfl (by simp only [fwA, seval] <;> rfl) rfl rfl en34 h34 ?_
  refine dops_run 2 (by simp only [fwA, seval, gfw, bx, dx, bitfw, Int.reduceEq, Int.reduceNeg, Int.reduceToNat, Int.reduceLE, Int.reduceLT] <;> rfl) ?_
  refine dops_end ?_
  refine awp_ret ?_
  exact gives_end (.inl rfl) _ rfl
end Go.Proofs.YteicbhkimepbaaaGreatDoor
