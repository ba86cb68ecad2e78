/- The contract of the least solution. -/
import Derived.Test.YtpkpbfemglmejaaDoorWE
import Derived.Test.YtpkpbfemglmejaaDoorWC
import Derived.Test.YtpkpbfemglmejaaDoorWB
namespace Go.Proofs.YtpkpbfemglmejaaDoor
set_option linter.unusedVariables false
set_option linter.unusedSimpArgs false
set_option maxRecDepth 100000
open Go.RowKit Fw

/-- The blocks of a search for the least solution. -/
def baseL (n : Nat) (ns : List (List UInt8)) (us : List Nat) (js : List ((Int × Int) × PV)) (vs : List Int) (F : List (PV × PV)) (sl : List So) : List Blk :=
  [.box [.vec (ns.map S1) false, .vec (us.map U1) false], .map (js.map enc2), .box [.vec (ns.map S1) false, .vec (us.map U1) false, .map (n + 1)], .map ((atL vs).map enc1), .box [.map (n + 3)], .map F, .box [.row (n + 7) 0 vs.length 2], .row 2 ((sl.map So.enc).flatten)]
section
variable {H L : List Blk} {n : Nat} {ns : List (List UInt8)} {us : List Nat} {js : List ((Int × Int) × PV)} {vs : List Int} {F : List (PV × PV)} {sl : List So}
theorem base_len : (H ++ (baseL n ns us js vs F sl ++ L)).length = H.length + 8 + L.length := by simp [baseL]; omega
theorem base_get (k : Nat) (hk : k < 8) : (H ++ (baseL n ns us js vs F sl ++ L))[H.length + k]? = (baseL n ns us js vs F sl)[k]? := by
  rw [List.getElem?_append_right (by omega), Nat.add_sub_cancel_left, List.getElem?_append_left (by simpa [baseL] using hk)]
theorem base_tail (j : Nat) : (H ++ (baseL n ns us js vs F sl ++ L))[H.length + 8 + j]? = L[j]? := by
  rw [List.getElem?_append_right (by omega), show H.length + 8 + j - H.length = 8 + j by omega, List.getElem?_append_right (by simp [baseL])]
  congr 1
  simp [baseL]
theorem base_set {k : Nat} (hk : k < 8) (B : Blk) : (H ++ (baseL n ns us js vs F sl ++ L)).set (H.length + k) B = H ++ ((baseL n ns us js vs F sl).set k B ++ L) := by
  rw [List.set_append_right _ _ (by omega), Nat.add_sub_cancel_left, List.set_append_left _ _ (by simpa [baseL] using hk)]
theorem base_set1 (js' : List ((Int × Int) × PV)) : (H ++ (baseL n ns us js vs F sl ++ L)).set (H.length + 1) (.map (js'.map enc2)) = H ++ (baseL n ns us js' vs F sl ++ L) := base_set (by decide) _
theorem base_set5 (F' : List (PV × PV)) : (H ++ (baseL n ns us js vs F sl ++ L)).set (H.length + 5) (.map F') = H ++ (baseL n ns us js vs F' sl ++ L) := base_set (by decide) _
theorem base_set7 (sl' : List So) : (H ++ (baseL n ns us js vs F sl ++ L)).set (H.length + 7) (.row 2 ((sl'.map So.enc).flatten)) = H ++ (baseL n ns us js vs F sl' ++ L) := base_set (by decide) _
theorem base_set8 (j : Nat) (B : Blk) : (H ++ (baseL n ns us js vs F sl ++ L)).set (H.length + 8 + j) B = H ++ (baseL n ns us js vs F sl ++ L.set j B) := by
  rw [List.set_append_right _ _ (by omega), show H.length + 8 + j - H.length = 8 + j by omega, List.set_append_right _ _ (by simp [baseL])]
  congr 3
  simp [baseL]
end
theorem so_put {l : List So} {k : Nat} {x : So} (m : Int) (h : l[k]? = some x) : splice ((l.map So.enc).flatten) (k * 2 + 1) [.int .i64 m] = ((l.set k ⟨x.v, m⟩).map So.enc).flatten := by
  obtain ⟨hk, hx⟩ := List.getElem?_eq_some_iff.1 h
  have e : l = l.take k ++ x :: l.drop (k + 1) := by rw [← hx, ← List.drop_eq_getElem_cons hk, List.take_append_drop]
  have hlen : (((l.take k).map So.enc).flatten).length = k * 2 := by rw [flat_len So.enc_len, List.length_take, Nat.min_eq_left (by omega)]
  have e1 : ((l.map So.enc).flatten) = ((l.take k).map So.enc).flatten ++ ([.int .i64 x.v, .int .i64 x.p] ++ ((l.drop (k + 1)).map So.enc).flatten) := by
    conv => lhs; rw [e]
    rw [List.map_append, List.flatten_append, List.map_cons, List.flatten_cons]; rfl
  have e2 : (((l.set k ⟨x.v, m⟩).map So.enc).flatten) = ((l.take k).map So.enc).flatten ++ ([.int .i64 x.v, .int .i64 m] ++ ((l.drop (k + 1)).map So.enc).flatten) := by
    rw [List.set_eq_take_append_cons_drop, if_pos hk, List.map_append, List.flatten_append, List.map_cons, List.flatten_cons]; rfl
  rw [e1, e2]
  generalize ((l.take k).map So.enc).flatten = A at hlen
  unfold splice
  rw [← hlen, List.take_length_add_append, show A.length + 1 + [PV.int .i64 m].length = A.length + 2 by rfl, List.drop_length_add_append]
  simp
theorem solW_upd {vs : List Int} (hn : vs.Nodup) {k : Nat} {b : Int} (h : vs[k]? = some b) (σ : Int → Nat) (j : Nat) : (solW vs σ).set k ⟨b, ((j : Nat) : Int)⟩ = solW vs (upd σ b j) := by
  obtain ⟨hk, hb⟩ := List.getElem?_eq_some_iff.1 h
  refine List.ext_getElem? fun i => ?_
  unfold solW
  by_cases e : k = i
  · subst e
    rw [List.getElem?_set_self (by simpa using hk), List.getElem?_map, h]
    simp [upd]
  · rw [List.getElem?_set_ne e, List.getElem?_map, List.getElem?_map]
    cases hi : vs[i]? with
    | none => rfl
    | some v =>
      have hne : v ≠ b := fun ev => e (by
        obtain ⟨h1, h2⟩ := List.getElem?_eq_some_iff.1 hi
        exact (List.getElem_inj hn).1 (hb.trans (ev.symm.trans h2.symm)))
      simp [upd, hne]
theorem z22 : zero1 Tryd.prog 22 = some (.vec [] true) := by kernel_rfl
def leastEnc (x : List So × Bool) : PV := .tup [.vec (x.1.map So.enc) false, .bool x.2]
theorem atL_snoc {vs : List Int} {i : Nat} {v : Int} (h : vs[i]? = some v) : atL (vs.take (i + 1)) = atL (vs.take i) ++ [(v, .int .i64 (i : Int))] := by
  have hi := (List.getElem?_eq_some_iff.1 h).1
  unfold atL
  rw [List.take_add_one, h, List.zipIdx_append, List.map_append]
  simp [List.length_take, Nat.min_eq_left (Nat.le_of_lt hi)]
theorem solW_snoc {vs : List Int} {σ : Int → Nat} {i : Nat} {v : Int} (h : vs[i]? = some v) : solW (vs.take (i + 1)) σ = solW (vs.take i) σ ++ [⟨v, ((σ v : Nat) : Int)⟩] := by
  unfold solW
  rw [List.take_add_one, h, List.map_append]; rfl
theorem at_new {vs : List Int} {i : Nat} {v : Int} (hn : vs.Nodup) (h : vs[i]? = some v) : find1 v (atL (vs.take i)) 0 = none := by
  refine find1_none fun x hx e => ?_
  have hm : v ∈ vs.take i := by
    rw [← atL_keys (vs.take i)]
    exact List.mem_map.2 ⟨x, hx, e⟩
  obtain ⟨j, hj⟩ := List.getElem?_of_mem hm
  have hji : j < i := by
    have := (List.getElem?_eq_some_iff.1 hj).1
    rw [List.length_take] at this; omega
  rw [List.getElem?_take_of_lt hji] at hj
  have h1 := List.getElem?_eq_some_iff.1 h
  have h2 := List.getElem?_eq_some_iff.1 hj
  have := (List.getElem_inj hn).1 (h2.2.trans h1.2.symm)
  omega
theorem onceI_nodup (c : List Pr) : (gath gV c).Nodup := (onceI_rise _).imp fun h e => by omega
set_option maxHeartbeats 16000000 in
/- chancel/solve.Least -/
theorem c11 (Γ : Nat → PV) (hΓ : Tab64 Γ) (ns : List (List UInt8)) (us : List Nat) (hw : W64 us) (c : List Pr) (hl : c.length ≤ 10000000) (ho : OkP c) : Gives Tryd.prog Γ 11 [.agg [.vec (ns.map S1) false, .vec (us.map U1) false], .vec (c.map Pr.enc) false] (leastEnc (leastV ns us c)) := by
  have h22 := c22 Γ hΓ ns us hw c (by omega) ho
  have h19 := c19 Γ hΓ ns us hw
  have h17 := c17 Γ c false (by omega)
  refine fn_of_awp Tryd.func11 rfl (by simp [Tryd.f11]) rfl fun H => ?_
  have hfin : ∀ (A' : List (Nat × PV)) (K2 : List Blk) (s : List So) (ok : Bool), (∃ L, K2 = H ++ L) → alook A' 4 = .vec (s.map So.enc) false → alook A' 5 = .bool ok → IsLeast ns us c (s, ok) → ((Exit.ret = .ret ∨ Exit.ret = .normal) ∧ ([] : List Nat).Nodup ∧ (∀ b ∈ ([] : List Nat), K2[b]? = some .dfr ∧ H.length ≤ b) ∧ ares Tryd.prog Γ A' K2 Tryd.f11.results.toList = some (leastEnc (leastV ns us c)) ∧ ∃ L', K2 = H ++ L') := fun A' K2 s ok hK2 h4 h5 hI => by
    obtain ⟨L, rfl⟩ := hK2
    rw [leastV_eq hI]
    exact gives_end (.inl rfl) _ (by simp [ares, aresL, ares1, Tryd.f11, h4, h5, leastEnc])
  refine awp_seq ?_
  refine awp_run rfl (by simp only [fwA, ↓reduceIte, Nat.reduceAdd, Nat.reduceMul, Nat.reduceEqDiff, Nat.reduceLT, Nat.reduceLeDiff, reduceCtorEq] <;> rfl) ?_
  refine awp_scope ?_
  refine awp_seq ?_
  refine awp_seq ?_
  cases hk : knownB ns us c
  · rw [hk] at h22
    refine awp_region rfl ?_
    refine aops_run 2 (by simp only [fwA, ↓reduceIte, Nat.reduceAdd, Nat.reduceMul, Nat.reduceEqDiff, Nat.reduceLT, Nat.reduceLeDiff, reduceCtorEq, bitfw, List.length_map, List.getElem?_map, Option.map_some, Int.natCast_nonneg, Int.toNat_natCast, decide_true, decide_false, Bool.and_true, Bool.and_self, Bool.not_true, Bool.not_false, Bool.false_and, Bool.true_and, el22, el23, el25, el26, el29, el32, el47, el79, el121, fl28_0, fl28_1, fl37_0, fl37_1, fl43_0, fl43_1, pl28, pl37, pl43, ti3, ti4, ti5, ti9, ti22, ti25, ti26, ti28, ti32, ti35, ti37, ti43, ti53, ti58, ti116, ti121, un3, un4, un5, un9, un22, un23, un25, un26, un29, un32, un35, un47, un53, un55, un58, un59, un79, un90, un113, un116, S1_fw, U1_fw, I1_fw, Pr.fw, So.fw, pl57, ti57, fl57_0, fl57_1, ti55, ti81] <;> rfl) ?_
    refine aops_fn rfl rfl rfl en22 h22 ?_
    refine aops_run 1 (by simp only [fwA, ↓reduceIte, Nat.reduceAdd, Nat.reduceMul, Nat.reduceEqDiff, Nat.reduceLT, Nat.reduceLeDiff, reduceCtorEq, bitfw, List.length_map, List.getElem?_map, Option.map_some, Int.natCast_nonneg, Int.toNat_natCast, decide_true, decide_false, Bool.and_true, Bool.and_self, Bool.not_true, Bool.not_false, Bool.false_and, Bool.true_and, el22, el23, el25, el26, el29, el32, el47, el79, el121, fl28_0, fl28_1, fl37_0, fl37_1, fl43_0, fl43_1, pl28, pl37, pl43, ti3, ti4, ti5, ti9, ti22, ti25, ti26, ti28, ti32, ti35, ti37, ti43, ti53, ti58, ti116, ti121, un3, un4, un5, un9, un22, un23, un25, un26, un29, un32, un35, un47, un53, un55, un58, un59, un79, un90, un113, un116, S1_fw, U1_fw, I1_fw, Pr.fw, So.fw, pl57, ti57, fl57_0, fl57_1, ti55, ti81] <;> rfl) ?_
    refine aops_end ?_
    refine awp_cond (b := true) (by simp [alook, aput, ev]) ?_
    refine awp_seq ?_
    refine awp_run rfl (by simp only [fwA, ↓reduceIte, Nat.reduceAdd, Nat.reduceMul, Nat.reduceEqDiff, Nat.reduceLT, Nat.reduceLeDiff, reduceCtorEq] <;> rfl) ?_
    refine awp_told (told_le 4 (.vec [] false) ⟨nofun, PV.leLL_refl _⟩) ?_
    refine awp_ret ?_
    exact hfin _ _ [] false ⟨_, rfl⟩ rfl rfl (.inl ⟨hk, rfl⟩)
  rw [hk] at h22
  obtain ⟨hR, hP⟩ := known_spec.1 hk
  obtain ⟨r1, r2, r3, r4, r5⟩ := right_spec hR
  obtain ⟨bot, eb, hbot⟩ := bot_nat hR
  rw [eb] at h19
  refine awp_region rfl ?_
  refine aops_run 2 (by simp only [fwA, ↓reduceIte, Nat.reduceAdd, Nat.reduceMul, Nat.reduceEqDiff, Nat.reduceLT, Nat.reduceLeDiff, reduceCtorEq, bitfw, List.length_map, List.getElem?_map, Option.map_some, Int.natCast_nonneg, Int.toNat_natCast, decide_true, decide_false, Bool.and_true, Bool.and_self, Bool.not_true, Bool.not_false, Bool.false_and, Bool.true_and, el22, el23, el25, el26, el29, el32, el47, el79, el121, fl28_0, fl28_1, fl37_0, fl37_1, fl43_0, fl43_1, pl28, pl37, pl43, ti3, ti4, ti5, ti9, ti22, ti25, ti26, ti28, ti32, ti35, ti37, ti43, ti53, ti58, ti116, ti121, un3, un4, un5, un9, un22, un23, un25, un26, un29, un32, un35, un47, un53, un55, un58, un59, un79, un90, un113, un116, S1_fw, U1_fw, I1_fw, Pr.fw, So.fw, pl57, ti57, fl57_0, fl57_1, ti55, ti81] <;> rfl) ?_
  refine aops_fn rfl rfl rfl en22 h22 ?_
  refine aops_run 1 (by simp only [fwA, ↓reduceIte, Nat.reduceAdd, Nat.reduceMul, Nat.reduceEqDiff, Nat.reduceLT, Nat.reduceLeDiff, reduceCtorEq, bitfw, List.length_map, List.getElem?_map, Option.map_some, Int.natCast_nonneg, Int.toNat_natCast, decide_true, decide_false, Bool.and_true, Bool.and_self, Bool.not_true, Bool.not_false, Bool.false_and, Bool.true_and, el22, el23, el25, el26, el29, el32, el47, el79, el121, fl28_0, fl28_1, fl37_0, fl37_1, fl43_0, fl43_1, pl28, pl37, pl43, ti3, ti4, ti5, ti9, ti22, ti25, ti26, ti28, ti32, ti35, ti37, ti43, ti53, ti58, ti116, ti121, un3, un4, un5, un9, un22, un23, un25, un26, un29, un32, un35, un47, un53, un55, un58, un59, un79, un90, un113, un116, S1_fw, U1_fw, I1_fw, Pr.fw, So.fw, pl57, ti57, fl57_0, fl57_1, ti55, ti81] <;> rfl) ?_
  refine aops_end ?_
  refine awp_cond (b := false) (by simp [alook, aput, ev]) (awp_skip ?_)
  refine awp_seq ?_
  refine awp_region rfl ?_
  refine aops_run 1 (by simp only [fwA, ↓reduceIte, Nat.reduceAdd, Nat.reduceMul, Nat.reduceEqDiff, Nat.reduceLT, Nat.reduceLeDiff, reduceCtorEq, bitfw, List.length_map, List.getElem?_map, Option.map_some, Int.natCast_nonneg, Int.toNat_natCast, decide_true, decide_false, Bool.and_true, Bool.and_self, Bool.not_true, Bool.not_false, Bool.false_and, Bool.true_and, el22, el23, el25, el26, el29, el32, el47, el79, el121, fl28_0, fl28_1, fl37_0, fl37_1, fl43_0, fl43_1, pl28, pl37, pl43, ti3, ti4, ti5, ti9, ti22, ti25, ti26, ti28, ti32, ti35, ti37, ti43, ti53, ti58, ti116, ti121, un3, un4, un5, un9, un22, un23, un25, un26, un29, un32, un35, un47, un53, un55, un58, un59, un79, un90, un113, un116, S1_fw, U1_fw, I1_fw, Pr.fw, So.fw, pl57, ti57, fl57_0, fl57_1, ti55, ti81] <;> rfl) ?_
  refine aops_one rfl (os_makeMap rfl ?_)
  refine aops_run 3 (by simp only [fwA, ↓reduceIte, Nat.reduceAdd, Nat.reduceMul, Nat.reduceEqDiff, Nat.reduceLT, Nat.reduceLeDiff, reduceCtorEq, bitfw, List.length_map, List.getElem?_map, Option.map_some, Int.natCast_nonneg, Int.toNat_natCast, decide_true, decide_false, Bool.and_true, Bool.and_self, Bool.not_true, Bool.not_false, Bool.false_and, Bool.true_and, el22, el23, el25, el26, el29, el32, el47, el79, el121, fl28_0, fl28_1, fl37_0, fl37_1, fl43_0, fl43_1, pl28, pl37, pl43, ti3, ti4, ti5, ti9, ti22, ti25, ti26, ti28, ti32, ti35, ti37, ti43, ti53, ti58, ti116, ti121, un3, un4, un5, un9, un22, un23, un25, un26, un29, un32, un35, un47, un53, un55, un58, un59, un79, un90, un113, un116, S1_fw, U1_fw, I1_fw, Pr.fw, So.fw, pl57, ti57, fl57_0, fl57_1, ti55, ti81] <;> rfl) ?_
  refine aops_end ?_
  refine awp_seq ?_
  refine awp_region rfl ?_
  refine aops_run 1 (by simp only [fwA, ↓reduceIte, Nat.reduceAdd, Nat.reduceMul, Nat.reduceEqDiff, Nat.reduceLT, Nat.reduceLeDiff, reduceCtorEq, bitfw, List.length_map, List.getElem?_map, Option.map_some, Int.natCast_nonneg, Int.toNat_natCast, decide_true, decide_false, Bool.and_true, Bool.and_self, Bool.not_true, Bool.not_false, Bool.false_and, Bool.true_and, el22, el23, el25, el26, el29, el32, el47, el79, el121, fl28_0, fl28_1, fl37_0, fl37_1, fl43_0, fl43_1, pl28, pl37, pl43, ti3, ti4, ti5, ti9, ti22, ti25, ti26, ti28, ti32, ti35, ti37, ti43, ti53, ti58, ti116, ti121, un3, un4, un5, un9, un22, un23, un25, un26, un29, un32, un35, un47, un53, un55, un58, un59, un79, un90, un113, un116, S1_fw, U1_fw, I1_fw, Pr.fw, So.fw, pl57, ti57, fl57_0, fl57_1, ti55, ti81] <;> rfl) ?_
  refine aops_fn rfl rfl rfl en19 h19 ?_
  refine aops_run 1 (by simp only [fwA, ↓reduceIte, Nat.reduceAdd, Nat.reduceMul, Nat.reduceEqDiff, Nat.reduceLT, Nat.reduceLeDiff, reduceCtorEq, bitfw, List.length_map, List.getElem?_map, Option.map_some, Int.natCast_nonneg, Int.toNat_natCast, decide_true, decide_false, Bool.and_true, Bool.and_self, Bool.not_true, Bool.not_false, Bool.false_and, Bool.true_and, el22, el23, el25, el26, el29, el32, el47, el79, el121, fl28_0, fl28_1, fl37_0, fl37_1, fl43_0, fl43_1, pl28, pl37, pl43, ti3, ti4, ti5, ti9, ti22, ti25, ti26, ti28, ti32, ti35, ti37, ti43, ti53, ti58, ti116, ti121, un3, un4, un5, un9, un22, un23, un25, un26, un29, un32, un35, un47, un53, un55, un58, un59, un79, un90, un113, un116, S1_fw, U1_fw, I1_fw, Pr.fw, So.fw, pl57, ti57, fl57_0, fl57_1, ti55, ti81] <;> rfl) ?_
  refine aops_end ?_
  refine awp_seq ?_
  refine awp_region rfl ?_
  refine aops_one rfl (os_makeMap rfl ?_)
  refine aops_run 2 (by simp only [fwA, ↓reduceIte, Nat.reduceAdd, Nat.reduceMul, Nat.reduceEqDiff, Nat.reduceLT, Nat.reduceLeDiff, reduceCtorEq, bitfw, List.length_map, List.getElem?_map, Option.map_some, Int.natCast_nonneg, Int.toNat_natCast, decide_true, decide_false, Bool.and_true, Bool.and_self, Bool.not_true, Bool.not_false, Bool.false_and, Bool.true_and, el22, el23, el25, el26, el29, el32, el47, el79, el121, fl28_0, fl28_1, fl37_0, fl37_1, fl43_0, fl43_1, pl28, pl37, pl43, ti3, ti4, ti5, ti9, ti22, ti25, ti26, ti28, ti32, ti35, ti37, ti43, ti53, ti58, ti116, ti121, un3, un4, un5, un9, un22, un23, un25, un26, un29, un32, un35, un47, un53, un55, un58, un59, un79, un90, un113, un116, S1_fw, U1_fw, I1_fw, Pr.fw, So.fw, pl57, ti57, fl57_0, fl57_1, ti55, ti81] <;> rfl) ?_
  refine aops_end ?_
  refine awp_seq ?_
  refine awp_region rfl ?_
  refine aops_one rfl (os_makeMap rfl ?_)
  refine aops_run 1 (by simp only [fwA, ↓reduceIte, Nat.reduceAdd, Nat.reduceMul, Nat.reduceEqDiff, Nat.reduceLT, Nat.reduceLeDiff, reduceCtorEq, bitfw, List.length_map, List.getElem?_map, Option.map_some, Int.natCast_nonneg, Int.toNat_natCast, decide_true, decide_false, Bool.and_true, Bool.and_self, Bool.not_true, Bool.not_false, Bool.false_and, Bool.true_and, el22, el23, el25, el26, el29, el32, el47, el79, el121, fl28_0, fl28_1, fl37_0, fl37_1, fl43_0, fl43_1, pl28, pl37, pl43, ti3, ti4, ti5, ti9, ti22, ti25, ti26, ti28, ti32, ti35, ti37, ti43, ti53, ti58, ti116, ti121, un3, un4, un5, un9, un22, un23, un25, un26, un29, un32, un35, un47, un53, un55, un58, un59, un79, un90, un113, un116, S1_fw, U1_fw, I1_fw, Pr.fw, So.fw, pl57, ti57, fl57_0, fl57_1, ti55, ti81] <;> rfl) ?_
  refine aops_end ?_
  refine awp_seq ?_
  refine awp_run rfl (by simp only [fwA, ↓reduceIte, Nat.reduceAdd, Nat.reduceMul, Nat.reduceEqDiff, Nat.reduceLT, Nat.reduceLeDiff, reduceCtorEq, bitfw, List.length_map, List.getElem?_map, Option.map_some, Int.natCast_nonneg, Int.toNat_natCast, decide_true, decide_false, Bool.and_true, Bool.and_self, Bool.not_true, Bool.not_false, Bool.false_and, Bool.true_and, el22, el23, el25, el26, el29, el32, el47, el79, el121, fl28_0, fl28_1, fl37_0, fl37_1, fl43_0, fl43_1, pl28, pl37, pl43, ti3, ti4, ti5, ti9, ti22, ti25, ti26, ti28, ti32, ti35, ti37, ti43, ti53, ti58, ti116, ti121, un3, un4, un5, un9, un22, un23, un25, un26, un29, un32, un35, un47, un53, un55, un58, un59, un79, un90, un113, un116, S1_fw, U1_fw, I1_fw, Pr.fw, So.fw, pl57, ti57, fl57_0, fl57_1, ti55, ti81] <;> rfl) ?_
  refine awp_told (told_adoptBox (H.length + 6) 0 2 (by decide) (cs := [.vec [] true]) (by simp) rfl) ?_
  have hvn := onceI_nodup c
  have hvl : (gath gV c).length ≤ 2 * c.length := by have := both_le c; omega
  generalize hvs : gath gV c = vs at h17 hvn hvl
  refine awp_heap (H' := H ++ [.box [.vec (ns.map S1) false, .vec (us.map U1) false], .map [], .box [.vec (ns.map S1) false, .vec (us.map U1) false, .map (H.length + 1)], .map ((atL (vs.take 0)).map enc1), .box [.map (H.length + 3)], .map [], .box [.row (H.length + 7) 0 0 2], .row 2 (((solW (vs.take 0) fun _ => bot).map So.enc).flatten)]) (by simp [atL, solW]) ?_
  refine awp_seq ?_
  refine awp_seq ?_
  refine awp_region rfl ?_
  refine aops_run 1 (by simp only [fwA, ↓reduceIte, Nat.reduceAdd, Nat.reduceMul, Nat.reduceEqDiff, Nat.reduceLT, Nat.reduceLeDiff, reduceCtorEq, bitfw, List.length_map, List.getElem?_map, Option.map_some, Int.natCast_nonneg, Int.toNat_natCast, decide_true, decide_false, Bool.and_true, Bool.and_self, Bool.not_true, Bool.not_false, Bool.false_and, Bool.true_and, el22, el23, el25, el26, el29, el32, el47, el79, el121, fl28_0, fl28_1, fl37_0, fl37_1, fl43_0, fl43_1, pl28, pl37, pl43, ti3, ti4, ti5, ti9, ti22, ti25, ti26, ti28, ti32, ti35, ti37, ti43, ti53, ti58, ti116, ti121, un3, un4, un5, un9, un22, un23, un25, un26, un29, un32, un35, un47, un53, un55, un58, un59, un79, un90, un113, un116, S1_fw, U1_fw, I1_fw, Pr.fw, So.fw, pl57, ti57, fl57_0, fl57_1, ti55, ti81] <;> rfl) ?_
  refine aops_fn rfl rfl rfl en17 h17 ?_
  refine aops_run 2 (by simp only [fwA, ↓reduceIte, Nat.reduceAdd, Nat.reduceMul, Nat.reduceEqDiff, Nat.reduceLT, Nat.reduceLeDiff, reduceCtorEq, bitfw, List.length_map, List.getElem?_map, Option.map_some, Int.natCast_nonneg, Int.toNat_natCast, decide_true, decide_false, Bool.and_true, Bool.and_self, Bool.not_true, Bool.not_false, Bool.false_and, Bool.true_and, el22, el23, el25, el26, el29, el32, el47, el79, el121, fl28_0, fl28_1, fl37_0, fl37_1, fl43_0, fl43_1, pl28, pl37, pl43, ti3, ti4, ti5, ti9, ti22, ti25, ti26, ti28, ti32, ti35, ti37, ti43, ti53, ti58, ti116, ti121, un3, un4, un5, un9, un22, un23, un25, un26, un29, un32, un35, un47, un53, un55, un58, un59, un79, un90, un113, un116, S1_fw, U1_fw, I1_fw, Pr.fw, So.fw, pl57, ti57, fl57_0, fl57_1, ti55, ti81] <;> rfl) ?_
  refine aops_end ?_
  refine awp_block ?_
  refine awp_for [1, 2, 6, 7, 8, 9, 10, 32, 33, 34] (fun i : Nat => [.vec (c.map Pr.enc) false, .ptr H.length 0, .ptr (H.length + 2) 0, .int .i64 (bot : Int), .ptr (H.length + 4) 0, .map (H.length + 5), .ptr (H.length + 6) 0, .vec (vs.map I1) false, .int .i64 (vs.length : Int), .int .i64 (i : Int)]) (fun i => H ++ [.box [.vec (ns.map S1) false, .vec (us.map U1) false], .map [], .box [.vec (ns.map S1) false, .vec (us.map U1) false, .map (H.length + 1)], .map ((atL (vs.take i)).map enc1), .box [.map (H.length + 3)], .map [], .box [.row (H.length + 7) 0 i 2], .row 2 (((solW (vs.take i) fun _ => bot).map So.enc).flatten)]) (fun i => vs.length - i) (fun i => i ≤ vs.length) 0 rfl rfl (Nat.zero_le _) fun i hil => ?_
  refine awp_seq ?_
  refine awp_run rfl (by simp only [fwA, ↓reduceIte, Nat.reduceAdd, Nat.reduceMul, Nat.reduceEqDiff, Nat.reduceLT, Nat.reduceLeDiff, reduceCtorEq, bitfw, List.length_map, List.getElem?_map, Option.map_some, Int.natCast_nonneg, Int.toNat_natCast, decide_true, decide_false, Bool.and_true, Bool.and_self, Bool.not_true, Bool.not_false, Bool.false_and, Bool.true_and, el22, el23, el25, el26, el29, el32, el47, el79, el121, fl28_0, fl28_1, fl37_0, fl37_1, fl43_0, fl43_1, pl28, pl37, pl43, ti3, ti4, ti5, ti9, ti22, ti25, ti26, ti28, ti32, ti35, ti37, ti43, ti53, ti58, ti116, ti121, un3, un4, un5, un9, un22, un23, un25, un26, un29, un32, un35, un47, un53, un55, un58, un59, un79, un90, un113, un116, S1_fw, U1_fw, I1_fw, Pr.fw, So.fw, pl57, ti57, fl57_0, fl57_1, ti55, ti81] <;> rfl) ?_
  refine awp_seq ?_
  refine awp_cond (by simp only [fwA, ↓reduceIte, Nat.reduceAdd, Nat.reduceMul, Nat.reduceEqDiff, Nat.reduceLT, Nat.reduceLeDiff, reduceCtorEq] <;> rfl) ?_
  by_cases hc : (i : Int) < vs.length
  · simp only [hc, decide_true, ↓reduceIte]
    refine awp_skip ?_
    have hi : i < vs.length := by omega
    have hwi : IntKind.i64.wrap ((i : Int) + 1) = ((i + 1 : Nat) : Int) := wrapS i (by omega)
    have gv : vs[i]? = some vs[i] := List.getElem?_eq_getElem hi
    generalize vs[i] = v at gv
    have hsl : (solW (vs.take i) fun _ => bot).length = i := by rw [solW_len, List.length_take]; omega
    refine awp_seq ?_
    refine awp_block ?_
    refine awp_seq ?_
    refine awp_run rfl (by simp only [fwA, ↓reduceIte, Nat.reduceAdd, Nat.reduceMul, Nat.reduceEqDiff, Nat.reduceLT, Nat.reduceLeDiff, reduceCtorEq, bitfw, List.length_map, List.getElem?_map, Option.map_some, Int.natCast_nonneg, Int.toNat_natCast, decide_true, decide_false, Bool.and_true, Bool.and_self, Bool.not_true, Bool.not_false, Bool.false_and, Bool.true_and, el22, el23, el25, el26, el29, el32, el47, el79, el121, fl28_0, fl28_1, fl37_0, fl37_1, fl43_0, fl43_1, pl28, pl37, pl43, ti3, ti4, ti5, ti9, ti22, ti25, ti26, ti28, ti32, ti35, ti37, ti43, ti53, ti58, ti116, ti121, un3, un4, un5, un9, un22, un23, un25, un26, un29, un32, un35, un47, un53, un55, un58, un59, un79, un90, un113, un116, S1_fw, U1_fw, I1_fw, Pr.fw, So.fw, pl57, ti57, fl57_0, fl57_1, ti55, ti81, gv] <;> rfl) ?_
    refine awp_seq ?_
    refine awp_region rfl ?_
    refine aops_run 3 (by simp only [fwA, ↓reduceIte, Nat.reduceAdd, Nat.reduceMul, Nat.reduceEqDiff, Nat.reduceLT, Nat.reduceLeDiff, reduceCtorEq, bitfw, List.length_map, List.getElem?_map, Option.map_some, Int.natCast_nonneg, Int.toNat_natCast, decide_true, decide_false, Bool.and_true, Bool.and_self, Bool.not_true, Bool.not_false, Bool.false_and, Bool.true_and, el22, el23, el25, el26, el29, el32, el47, el79, el121, fl28_0, fl28_1, fl37_0, fl37_1, fl43_0, fl43_1, pl28, pl37, pl43, ti3, ti4, ti5, ti9, ti22, ti25, ti26, ti28, ti32, ti35, ti37, ti43, ti53, ti58, ti116, ti121, un3, un4, un5, un9, un22, un23, un25, un26, un29, un32, un35, un47, un53, un55, un58, un59, un79, un90, un113, un116, S1_fw, U1_fw, I1_fw, Pr.fw, So.fw, pl57, ti57, fl57_0, fl57_1, ti55, ti81] <;> rfl) ?_
    refine aops_one rfl (os_mapUpdate (r := none) (.inl rfl) un58 un35' rfl rfl (Fw.get_at _ _ 3) ((mfind1 v _ 0).trans (by rw [at_new hvn gv])) ?_)
    refine aops_end ?_
    refine awp_heap (H' := H ++ [.box [.vec (ns.map S1) false, .vec (us.map U1) false], .map [], .box [.vec (ns.map S1) false, .vec (us.map U1) false, .map (H.length + 1)], .map ((atL (vs.take (i + 1))).map enc1), .box [.map (H.length + 3)], .map [], .box [.row (H.length + 7) 0 i 2], .row 2 (((solW (vs.take i) fun _ => bot).map So.enc).flatten)]) (by rw [atL_snoc gv, List.map_append]; simp [mput, enc1]; exact ⟨rfl, rfl⟩) ?_
    refine awp_region rfl ?_
    refine aops_run 5 (by simp only [fwA, ↓reduceIte, Nat.reduceAdd, Nat.reduceMul, Nat.reduceEqDiff, Nat.reduceLT, Nat.reduceLeDiff, reduceCtorEq, bitfw, List.length_map, List.getElem?_map, Option.map_some, Int.natCast_nonneg, Int.toNat_natCast, decide_true, decide_false, Bool.and_true, Bool.and_self, Bool.not_true, Bool.not_false, Bool.false_and, Bool.true_and, el22, el23, el25, el26, el29, el32, el47, el79, el121, fl28_0, fl28_1, fl37_0, fl37_1, fl43_0, fl43_1, pl28, pl37, pl43, ti3, ti4, ti5, ti9, ti22, ti25, ti26, ti28, ti32, ti35, ti37, ti43, ti53, ti58, ti116, ti121, un3, un4, un5, un9, un22, un23, un25, un26, un29, un32, un35, un47, un53, un55, un58, un59, un79, un90, un113, un116, S1_fw, U1_fw, I1_fw, Pr.fw, So.fw, pl57, ti57, fl57_0, fl57_1, ti55, ti81] <;> rfl) ?_
    refine aops_one rfl (os_appendR rfl un32 ti37 un32 (.inl ⟨_, rfl⟩) rfl (Fw.get_at _ _ 7) (by rw [flat_len So.enc_len, hsl]; exact (Nat.zero_add _).symm) rfl (fun es f h e he => by
      simp only [fwA, ↓reduceIte, Nat.reduceAdd, Nat.reduceMul, Nat.reduceEqDiff, Nat.reduceLT, Nat.reduceLeDiff, reduceCtorEq, PV.vec.injEq] at h
      obtain ⟨rfl, rfl⟩ := h
      simp only [List.mem_singleton] at he
      subst he; rfl) rfl (by show (_ + 1) * 16 ≤ _; omega) (by show _ + 1 ≤ _; omega) ?_)
    refine aops_run 1 (by simp only [fwA, ↓reduceIte, Nat.reduceAdd, Nat.reduceMul, Nat.reduceEqDiff, Nat.reduceLT, Nat.reduceLeDiff, reduceCtorEq, bitfw, List.length_map, List.getElem?_map, Option.map_some, Int.natCast_nonneg, Int.toNat_natCast, decide_true, decide_false, Bool.and_true, Bool.and_self, Bool.not_true, Bool.not_false, Bool.false_and, Bool.true_and, el22, el23, el25, el26, el29, el32, el47, el79, el121, fl28_0, fl28_1, fl37_0, fl37_1, fl43_0, fl43_1, pl28, pl37, pl43, ti3, ti4, ti5, ti9, ti22, ti25, ti26, ti28, ti32, ti35, ti37, ti43, ti53, ti58, ti116, ti121, un3, un4, un5, un9, un22, un23, un25, un26, un29, un32, un35, un47, un53, un55, un58, un59, un79, un90, un113, un116, S1_fw, U1_fw, I1_fw, Pr.fw, So.fw, pl57, ti57, fl57_0, fl57_1, ti55, ti81] <;> rfl) ?_
    refine aops_end ?_
    refine awp_run rfl (by simp only [fwA, ↓reduceIte, Nat.reduceAdd, Nat.reduceMul, Nat.reduceEqDiff, Nat.reduceLT, Nat.reduceLeDiff, reduceCtorEq] <;> rfl) ?_
    refine ⟨i + 1, by omega, by omega, ?_, ?_, rfl⟩
    · simp only [fwA, ↓reduceIte, Nat.reduceAdd, Nat.reduceMul, Nat.reduceEqDiff, Nat.reduceLT, Nat.reduceLeDiff, reduceCtorEq, List.map_cons, List.map_nil, hwi]
    · rw [solW_snoc gv]
      simp [So.enc]
  simp only [hc, decide_false, Bool.false_eq_true, ↓reduceIte]
  refine awp_exit ?_
  have e : i = vs.length := by omega
  subst e
  rw [List.take_length]
  refine awp_seq ?_
  refine awp_seq ?_
  refine awp_run rfl (by simp only [fwA, ↓reduceIte, Nat.reduceAdd, Nat.reduceMul, Nat.reduceEqDiff, Nat.reduceLT, Nat.reduceLeDiff, reduceCtorEq, bitfw, List.length_map, List.getElem?_map, Option.map_some, Int.natCast_nonneg, Int.toNat_natCast, decide_true, decide_false, Bool.and_true, Bool.and_self, Bool.not_true, Bool.not_false, Bool.false_and, Bool.true_and, el22, el23, el25, el26, el29, el32, el47, el79, el121, fl28_0, fl28_1, fl37_0, fl37_1, fl43_0, fl43_1, pl28, pl37, pl43, ti3, ti4, ti5, ti9, ti22, ti25, ti26, ti28, ti32, ti35, ti37, ti43, ti53, ti58, ti116, ti121, un3, un4, un5, un9, un22, un23, un25, un26, un29, un32, un35, un47, un53, un55, un58, un59, un79, un90, un113, un116, S1_fw, U1_fw, I1_fw, Pr.fw, So.fw, pl57, ti57, fl57_0, fl57_1, ti55, ti81] <;> rfl) ?_
  refine awp_block ?_
  refine awp_heap (H' := H ++ (baseL H.length ns us [] vs ((mapOf (H.length + 8) [] (c.take 0)).map enc1) (solW vs fun _ => bot) ++ [])) (by simp [baseL, mapOf]) ?_
  refine awp_for [1, 2, 6, 8, 9, 10, 49, 50, 51] (fun s : Nat × List (Int × Nat) × List Blk => [.vec (c.map Pr.enc) false, .ptr H.length 0, .ptr (H.length + 2) 0, .ptr (H.length + 4) 0, .map (H.length + 5), .ptr (H.length + 6) 0, .vec (c.map Pr.enc) false, .int .i64 (c.length : Int), .int .i64 (s.1 : Int)]) (fun s => H ++ (baseL H.length ns us [] vs ((mapOf (H.length + 8) s.2.1 (c.take s.1)).map enc1) (solW vs fun _ => bot) ++ s.2.2)) (fun s => c.length - s.1) (fun s => s.1 ≤ c.length ∧ FromOk (c.take s.1) s.2.1 s.2.2) (0, [], []) rfl rfl ⟨Nat.zero_le _, from_nil⟩ fun ⟨i, es, L⟩ ⟨hil, hF⟩ => ?_
  simp only at hil hF ⊢
  refine awp_seq ?_
  refine awp_run rfl (by simp only [fwA, ↓reduceIte, Nat.reduceAdd, Nat.reduceMul, Nat.reduceEqDiff, Nat.reduceLT, Nat.reduceLeDiff, reduceCtorEq, bitfw, List.length_map, List.getElem?_map, Option.map_some, Int.natCast_nonneg, Int.toNat_natCast, decide_true, decide_false, Bool.and_true, Bool.and_self, Bool.not_true, Bool.not_false, Bool.false_and, Bool.true_and, el22, el23, el25, el26, el29, el32, el47, el79, el121, fl28_0, fl28_1, fl37_0, fl37_1, fl43_0, fl43_1, pl28, pl37, pl43, ti3, ti4, ti5, ti9, ti22, ti25, ti26, ti28, ti32, ti35, ti37, ti43, ti53, ti58, ti116, ti121, un3, un4, un5, un9, un22, un23, un25, un26, un29, un32, un35, un47, un53, un55, un58, un59, un79, un90, un113, un116, S1_fw, U1_fw, I1_fw, Pr.fw, So.fw, pl57, ti57, fl57_0, fl57_1, ti55, ti81] <;> rfl) ?_
  refine awp_seq ?_
  refine awp_cond (by simp only [fwA, ↓reduceIte, Nat.reduceAdd, Nat.reduceMul, Nat.reduceEqDiff, Nat.reduceLT, Nat.reduceLeDiff, reduceCtorEq] <;> rfl) ?_
  by_cases hc : (i : Int) < c.length
  · simp only [hc, decide_true, ↓reduceIte]
    refine awp_skip ?_
    have hi : i < c.length := by omega
    have hwi : IntKind.i64.wrap ((i : Int) + 1) = ((i + 1 : Nat) : Int) := wrapS i (by omega)
    have gp : c[i]? = some c[i] := List.getElem?_eq_getElem hi
    generalize c[i] = p at gp
    have hts := take_snoc gp
    have hKl := base_len (H := H) (L := L) (n := H.length) (ns := ns) (us := us) (js := []) (vs := vs) (F := (mapOf (H.length + 8) es (c.take i)).map enc1) (sl := solW vs fun _ => bot)
    have g5 := base_get (H := H) (L := L) (n := H.length) (ns := ns) (us := us) (js := []) (vs := vs) (F := (mapOf (H.length + 8) es (c.take i)).map enc1) (sl := solW vs fun _ => bot) 5 (by decide)
    have g8 : ∀ j, (H ++ (baseL H.length ns us [] vs ((mapOf (H.length + 8) es (c.take i)).map enc1) (solW vs fun _ => bot) ++ L))[H.length + 8 + j]? = L[j]? := fun j => base_tail j
    have hset : ∀ F', (H ++ (baseL H.length ns us [] vs ((mapOf (H.length + 8) es (c.take i)).map enc1) (solW vs fun _ => bot) ++ L)).set (H.length + 5) (.map F') = H ++ (baseL H.length ns us [] vs F' (solW vs fun _ => bot) ++ L) := fun F' => base_set5 F'
    have hset8 : ∀ j B F', j < L.length → ((H ++ (baseL H.length ns us [] vs ((mapOf (H.length + 8) es (c.take i)).map enc1) (solW vs fun _ => bot) ++ L)).set (H.length + 8 + j) B).set (H.length + 5) (.map F') = H ++ (baseL H.length ns us [] vs F' (solW vs fun _ => bot) ++ L.set j B) := fun j B F' _ => by rw [base_set8, base_set5]
    generalize hK : H ++ (baseL H.length ns us [] vs ((mapOf (H.length + 8) es (c.take i)).map enc1) (solW vs fun _ => bot) ++ L) = K at hKl g5 g8 hset hset8 ⊢
    refine awp_seq ?_
    refine awp_block ?_
    refine awp_seq ?_
    refine awp_run rfl (by simp only [fwA, ↓reduceIte, Nat.reduceAdd, Nat.reduceMul, Nat.reduceEqDiff, Nat.reduceLT, Nat.reduceLeDiff, reduceCtorEq, bitfw, List.length_map, List.getElem?_map, Option.map_some, Int.natCast_nonneg, Int.toNat_natCast, decide_true, decide_false, Bool.and_true, Bool.and_self, Bool.not_true, Bool.not_false, Bool.false_and, Bool.true_and, el22, el23, el25, el26, el29, el32, el47, el79, el121, fl28_0, fl28_1, fl37_0, fl37_1, fl43_0, fl43_1, pl28, pl37, pl43, ti3, ti4, ti5, ti9, ti22, ti25, ti26, ti28, ti32, ti35, ti37, ti43, ti53, ti58, ti116, ti121, un3, un4, un5, un9, un22, un23, un25, un26, un29, un32, un35, un47, un53, un55, un58, un59, un79, un90, un113, un116, S1_fw, U1_fw, I1_fw, Pr.fw, So.fw, pl57, ti57, fl57_0, fl57_1, ti55, ti81, gp] <;> rfl) ?_
    have gq : (K ++ [Blk.box p.enc])[K.length]? = some (.box p.enc) := by rw [Fw.get_at0]; rfl
    have g5' : ∀ L, (K ++ L)[H.length + 5]? = some (.map ((mapOf (H.length + 8) es (c.take i)).map enc1)) := fun L => by rw [List.getElem?_append_left (by omega)]; exact g5
    rcases from_find hF (H.length + 8) p.a with ⟨f1, f2, f3⟩ | ⟨k, j, f1, f2⟩
    · have gvw : View.vw ⟨(K ++ [Blk.box p.enc]).length, none⟩ (K ++ [Blk.box p.enc]) = K ++ [Blk.box p.enc] := List.take_length
      refine awp_drawn [0, 0, 4, 0, 0, 1, 1, 1, 0, 3, 2] [0, 0, 2, 0, 0, 16, 56, 0, 128, 504, 1023] mixed rfl (by kernel_rfl) ?_
      refine dops_run 6 (by simp only [fwA, ↓reduceIte, Nat.reduceAdd, Nat.reduceMul, Nat.reduceEqDiff, Nat.reduceLT, Nat.reduceLeDiff, reduceCtorEq, bitfw, List.length_map, List.getElem?_map, Option.map_some, Int.natCast_nonneg, Int.toNat_natCast, decide_true, decide_false, Bool.and_true, Bool.and_self, Bool.not_true, Bool.not_false, Bool.false_and, Bool.true_and, el22, el23, el25, el26, el29, el32, el47, el79, el121, fl28_0, fl28_1, fl37_0, fl37_1, fl43_0, fl43_1, pl28, pl37, pl43, ti3, ti4, ti5, ti9, ti22, ti25, ti26, ti28, ti32, ti35, ti37, ti43, ti53, ti58, ti116, ti121, un3, un4, un5, un9, un22, un23, un25, un26, un29, un32, un35, un47, un53, un55, un58, un59, un79, un90, un113, un116, S1_fw, U1_fw, I1_fw, Pr.fw, So.fw, pl57, ti57, fl57_0, fl57_1, ti55, ti81, gvw, gq, Pr.fw] <;> rfl) ?_
      refine dops_reads (.vec [] true) rfl rfl (fun A' hev => os_lookup (r := none) (z := .vec [] true) rfl un59 un35' (by rw [hev _ (by simp [Op.operands])]; rfl) ((hev _ (by simp [Op.operands])).trans rfl) (g5' _) (by rw [hev _ (by simp [Op.operands])]; exact (mfind1 p.a _ 0).trans (by rw [f1])) (fun _ => zero1_spec z22) ⟨rfl, rfl⟩) ?_
      refine dops_run 2 (by simp only [fwA, ↓reduceIte, Nat.reduceAdd, Nat.reduceMul, Nat.reduceEqDiff, Nat.reduceLT, Nat.reduceLeDiff, reduceCtorEq, bitfw, List.length_map, List.getElem?_map, Option.map_some, Int.natCast_nonneg, Int.toNat_natCast, decide_true, decide_false, Bool.and_true, Bool.and_self, Bool.not_true, Bool.not_false, Bool.false_and, Bool.true_and, el22, el23, el25, el26, el29, el32, el47, el79, el121, fl28_0, fl28_1, fl37_0, fl37_1, fl43_0, fl43_1, pl28, pl37, pl43, ti3, ti4, ti5, ti9, ti22, ti25, ti26, ti28, ti32, ti35, ti37, ti43, ti53, ti58, ti116, ti121, un3, un4, un5, un9, un22, un23, un25, un26, un29, un32, un35, un47, un53, un55, un58, un59, un79, un90, un113, un116, S1_fw, U1_fw, I1_fw, Pr.fw, So.fw, pl57, ti57, fl57_0, fl57_1, ti55, ti81, gq, Pr.fw] <;> rfl) ?_
      refine dops_appendNew (n := 1) rfl rfl (.inr rfl) (Nat.le_refl _) un22 ti43 un22 (.inl ⟨_, rfl⟩) (by decide) rfl rfl (fun es f h e he => by
        simp only [fwA, ↓reduceIte, Nat.reduceAdd, Nat.reduceMul, Nat.reduceEqDiff, Nat.reduceLT, Nat.reduceLeDiff, reduceCtorEq, PV.vec.injEq] at h
        obtain ⟨rfl, rfl⟩ := h
        simp only [List.mem_singleton] at he
        subst he; rfl) rfl (by decide) (by decide) ?_
      refine dops_turns (H' := ((K ++ [Blk.box p.enc]) ++ [Blk.row 2 p.enc]).set (H.length + 5) (.map ((mapOf (H.length + 8) es (c.take i) ++ [(p.a, PV.row (H.length + 8 + (L.length + 1)) 0 1 2)]).map enc1))) .any rfl rfl (fun A' hev => os_mapUpdate (r := none) (.inl rfl) un59 un35' (by rw [hev _ (by simp [Op.operands])]; rfl) ((hev _ (by simp [Op.operands])).trans rfl) (by rw [List.append_assoc]; exact g5' _) (by rw [hev _ (by simp [Op.operands])]; exact (mfind1 p.a _ 0).trans (by rw [f1])) ⟨rfl, by
        rw [hev _ (by simp [Op.operands]), hev _ (by simp [Op.operands]), List.map_append]
        have : H.length + 8 + (L.length + 1) = (K ++ [Blk.box p.enc]).length := by rw [List.length_append, hKl]; rfl
        rw [this]; rfl⟩) ?_
      refine dops_end ?_
      refine awp_run rfl (by simp only [fwA, ↓reduceIte, Nat.reduceAdd, Nat.reduceMul, Nat.reduceEqDiff, Nat.reduceLT, Nat.reduceLeDiff, reduceCtorEq] <;> rfl) ?_
      refine ⟨(i + 1, es ++ [(p.a, L.length + 1)], L ++ [Blk.box p.enc, Blk.row 2 p.enc]), by simp only; omega, ⟨by simp only; omega, ?_⟩, ?_, ?_, rfl⟩
      · simp only [hts]
        exact from_new hF f2 f3 _
      · simp only [fwA, ↓reduceIte, Nat.reduceAdd, Nat.reduceMul, Nat.reduceEqDiff, Nat.reduceLT, Nat.reduceLeDiff, reduceCtorEq, List.map_cons, List.map_nil, hwi]
      · simp only [hts]
        rw [from_new_map f2 f3, List.set_append_left _ _ (by omega), hset]
        simp only [List.append_assoc]
    · have hm := List.mem_of_getElem? f1
      have hjl := from_len hF hm
      simp only at hjl
      have hrow : (K ++ [Blk.box p.enc])[H.length + 8 + j]? = some (.row 2 (((fl (c.take i) p.a).map Pr.enc).flatten)) := by
        rw [List.getElem?_append_left (by omega), g8]; exact hF.k4 _ hm
      have gvw : ((K ++ [Blk.box p.enc]).set (H.length + 8 + j) Blk.dead)[K.length]? = some (.box p.enc) := by rw [List.getElem?_set_ne (by omega)]; exact gq
      have hfl : (fl (c.take i) p.a).length ≤ 10000000 := by
        have h1 : (fl (c.take i) p.a).length ≤ (c.take i).length := List.length_filter_le _ _
        rw [List.length_take] at h1; omega
      refine awp_drawnX (some (H.length + 8 + j)) [0, 0, 4, 0, 0, 1, 1, 1, 0, 5, 2] [0, 0, 2, 0, 0, 16, 56, 0, 128, 504, 1023] mixed rfl (by kernel_rfl) ?_
      refine dops_run 6 (by simp only [fwA, ↓reduceIte, Nat.reduceAdd, Nat.reduceMul, Nat.reduceEqDiff, Nat.reduceLT, Nat.reduceLeDiff, reduceCtorEq, bitfw, List.length_map, List.getElem?_map, Option.map_some, Int.natCast_nonneg, Int.toNat_natCast, decide_true, decide_false, Bool.and_true, Bool.and_self, Bool.not_true, Bool.not_false, Bool.false_and, Bool.true_and, el22, el23, el25, el26, el29, el32, el47, el79, el121, fl28_0, fl28_1, fl37_0, fl37_1, fl43_0, fl43_1, pl28, pl37, pl43, ti3, ti4, ti5, ti9, ti22, ti25, ti26, ti28, ti32, ti35, ti37, ti43, ti53, ti58, ti116, ti121, un3, un4, un5, un9, un22, un23, un25, un26, un29, un32, un35, un47, un53, un55, un58, un59, un79, un90, un113, un116, S1_fw, U1_fw, I1_fw, Pr.fw, So.fw, pl57, ti57, fl57_0, fl57_1, ti55, ti81, gvw, gq, Pr.fw] <;> rfl) ?_
      refine dops_reads (.row (H.length + 8 + j) 0 (fl (c.take i) p.a).length 2) rfl rfl (fun A' hev => os_lookup (r := some (k, .row (H.length + 8 + j) 0 (fl (c.take i) p.a).length 2)) (z := .any) rfl un59 un35' (by rw [hev _ (by simp [Op.operands])]; rfl) ((hev _ (by simp [Op.operands])).trans rfl) (g5' _) (by rw [hev _ (by simp [Op.operands])]; exact (mfind1 p.a _ 0).trans (by rw [f2])) (fun h => by cases h) ⟨rfl, rfl⟩) ?_
      refine dops_run 2 (by simp only [fwA, ↓reduceIte, Nat.reduceAdd, Nat.reduceMul, Nat.reduceEqDiff, Nat.reduceLT, Nat.reduceLeDiff, reduceCtorEq, bitfw, List.length_map, List.getElem?_map, Option.map_some, Int.natCast_nonneg, Int.toNat_natCast, decide_true, decide_false, Bool.and_true, Bool.and_self, Bool.not_true, Bool.not_false, Bool.false_and, Bool.true_and, el22, el23, el25, el26, el29, el32, el47, el79, el121, fl28_0, fl28_1, fl37_0, fl37_1, fl43_0, fl43_1, pl28, pl37, pl43, ti3, ti4, ti5, ti9, ti22, ti25, ti26, ti28, ti32, ti35, ti37, ti43, ti53, ti58, ti116, ti121, un3, un4, un5, un9, un22, un23, un25, un26, un29, un32, un35, un47, un53, un55, un58, un59, un79, un90, un113, un116, S1_fw, U1_fw, I1_fw, Pr.fw, So.fw, pl57, ti57, fl57_0, fl57_1, ti55, ti81, gq, Pr.fw] <;> rfl) ?_
      refine dops_appendX (n := 1) (es := [p.enc]) (f := true) rfl rfl rfl un22 ti43 un22 (.inl ⟨_, rfl⟩) rfl hrow (by rw [flat_len Pr.enc_len]; exact (Nat.zero_add _).symm) rfl rfl (fun e he => by
        simp only [List.mem_singleton] at he
        subst he; rfl) rfl (by show (_ + 1) * 16 ≤ _; omega) (by show _ + 1 ≤ _; omega) rfl (by show _ < (K ++ [Blk.box p.enc]).length; rw [List.length_append]; omega) ?_
      refine dops_turns (H' := ((K ++ [Blk.box p.enc]).set (H.length + 8 + j) (.row 2 (((fl (c.take i) p.a).map Pr.enc).flatten ++ p.enc))).set (H.length + 5) (.map (((mapOf (H.length + 8) es (c.take i)).set k (p.a, PV.row (H.length + 8 + j) 0 ((fl (c.take i) p.a).length + 1) 2)).map enc1))) .any rfl rfl (fun A' hev => os_mapUpdate (r := some (k, .row (H.length + 8 + j) 0 (fl (c.take i) p.a).length 2)) (.inl rfl) un59 un35' (by rw [hev _ (by simp [Op.operands])]; rfl) ((hev _ (by simp [Op.operands])).trans rfl) (by rw [List.getElem?_set_ne (by omega)]; exact g5' _) (by rw [hev _ (by simp [Op.operands])]; exact (mfind1 p.a _ 0).trans (by rw [f2])) ⟨rfl, by
        rw [hev _ (by simp [Op.operands]), hev _ (by simp [Op.operands]), List.map_set]
        rfl⟩) ?_
      refine dops_end ?_
      refine awp_run rfl (by simp only [fwA, ↓reduceIte, Nat.reduceAdd, Nat.reduceMul, Nat.reduceEqDiff, Nat.reduceLT, Nat.reduceLeDiff, reduceCtorEq] <;> rfl) ?_
      refine ⟨(i + 1, es, (L ++ [Blk.box p.enc]).set j (.row 2 (((fl (c.take i) p.a).map Pr.enc).flatten ++ p.enc))), by simp only; omega, ⟨by simp only; omega, ?_⟩, ?_, ?_, rfl⟩
      · simp only [hts]
        exact from_old hF f1 _
      · simp only [fwA, ↓reduceIte, Nat.reduceAdd, Nat.reduceMul, Nat.reduceEqDiff, Nat.reduceLT, Nat.reduceLeDiff, reduceCtorEq, List.map_cons, List.map_nil, hwi]
      · simp only [hts]
        rw [from_old_map hF f1, List.set_append_left _ _ (by omega), List.set_append_left _ _ (by rw [List.length_set]; omega), hset8 _ _ _ hjl, List.set_append_left _ _ hjl]
        simp only [List.append_assoc]
  simp only [hc, decide_false, Bool.false_eq_true, ↓reduceIte]
  refine awp_exit ?_
  have e : i = c.length := by omega
  subst e
  rw [List.take_length] at hF ⊢
  refine awp_seq ?_
  refine awp_run rfl (by simp only [fwA, ↓reduceIte, Nat.reduceAdd, Nat.reduceMul, Nat.reduceEqDiff, Nat.reduceLT, Nat.reduceLeDiff, reduceCtorEq, bitfw, List.length_map, List.getElem?_map, Option.map_some, Int.natCast_nonneg, Int.toNat_natCast, decide_true, decide_false, Bool.and_true, Bool.and_self, Bool.not_true, Bool.not_false, Bool.false_and, Bool.true_and, el22, el23, el25, el26, el29, el32, el47, el79, el121, fl28_0, fl28_1, fl37_0, fl37_1, fl43_0, fl43_1, pl28, pl37, pl43, ti3, ti4, ti5, ti9, ti22, ti25, ti26, ti28, ti32, ti35, ti37, ti43, ti53, ti58, ti116, ti121, un3, un4, un5, un9, un22, un23, un25, un26, un29, un32, un35, un47, un53, un55, un58, un59, un79, un90, un113, un116, S1_fw, U1_fw, I1_fw, Pr.fw, So.fw, pl57, ti57, fl57_0, fl57_1, ti55, ti81] <;> rfl) ?_
  refine awp_seq ?_
  refine awp_region rfl ?_
  refine aops_run 1 (by simp only [fwA, ↓reduceIte, Nat.reduceAdd, Nat.reduceMul, Nat.reduceEqDiff, Nat.reduceLT, Nat.reduceLeDiff, reduceCtorEq, bitfw, List.length_map, List.getElem?_map, Option.map_some, Int.natCast_nonneg, Int.toNat_natCast, decide_true, decide_false, Bool.and_true, Bool.and_self, Bool.not_true, Bool.not_false, Bool.false_and, Bool.true_and, el22, el23, el25, el26, el29, el32, el47, el79, el121, fl28_0, fl28_1, fl37_0, fl37_1, fl43_0, fl43_1, pl28, pl37, pl43, ti3, ti4, ti5, ti9, ti22, ti25, ti26, ti28, ti32, ti35, ti37, ti43, ti53, ti58, ti116, ti121, un3, un4, un5, un9, un22, un23, un25, un26, un29, un32, un35, un47, un53, un55, un58, un59, un79, un90, un113, un116, S1_fw, U1_fw, I1_fw, Pr.fw, So.fw, pl57, ti57, fl57_0, fl57_1, ti55, ti81] <;> rfl) ?_
  refine aops_call rfl rfl rfl en26 ((c26 Γ _ c false (by omega)).mono fun p H' hp => ?_)
  obtain ⟨rfl, rfl⟩ := hp
  refine aops_run 1 (by simp only [fwA, ↓reduceIte, Nat.reduceAdd, Nat.reduceMul, Nat.reduceEqDiff, Nat.reduceLT, Nat.reduceLeDiff, reduceCtorEq, bitfw, List.length_map, List.getElem?_map, Option.map_some, Int.natCast_nonneg, Int.toNat_natCast, decide_true, decide_false, Bool.and_true, Bool.and_self, Bool.not_true, Bool.not_false, Bool.false_and, Bool.true_and, el22, el23, el25, el26, el29, el32, el47, el79, el121, fl28_0, fl28_1, fl37_0, fl37_1, fl43_0, fl43_1, pl28, pl37, pl43, ti3, ti4, ti5, ti9, ti22, ti25, ti26, ti28, ti32, ti35, ti37, ti43, ti53, ti58, ti116, ti121, un3, un4, un5, un9, un22, un23, un25, un26, un29, un32, un35, un47, un53, un55, un58, un59, un79, un90, un113, un116, S1_fw, U1_fw, I1_fw, Pr.fw, So.fw, pl57, ti57, fl57_0, fl57_1, ti55, ti81] <;> rfl) ?_
  refine aops_end ?_
  have hjw : ∀ x ∈ es, x.2 ≠ L.length := fun x hx => Nat.ne_of_lt (from_len hF hx)
  have hF2 := from_mono hF [Blk.row 2 ((c.map Pr.enc).flatten)]
  have hrw : (L ++ [Blk.row 2 ((c.map Pr.enc).flatten)])[L.length]? = some (.row 2 ((c.map Pr.enc).flatten)) := by rw [List.getElem?_append_right (Nat.le_refl _), Nat.sub_self]; rfl
  have hbl : H.length + ((baseL H.length ns us [] vs ((mapOf (H.length + 8) es c).map enc1) (solW vs fun _ => bot)).length + L.length) = H.length + 8 + L.length := by
    show H.length + (8 + L.length) = _
    omega
  rw [hbl]
  clear hbl
  generalize hjwd : L.length = jw at hjw hrw ⊢
  generalize hLw : L ++ [Blk.row 2 ((c.map Pr.enc).flatten)] = Lw at hF2 hrw
  refine awp_heap (H' := H ++ (baseL H.length ns us [] vs ((mapOf (H.length + 8) es c).map enc1) (solW vs fun _ => bot) ++ Lw)) (by rw [← hLw]) ?_
  refine awp_seq ?_
  refine awp_label ?_
  refine awp_seq ?_
  refine awp_block ?_
  refine awp_for [2, 6, 8, 9, 10, 15, 16] (fun s : List Pr × Nat × (Int → Nat) × List ((Int × Int) × PV) × List Blk => [.ptr H.length 0, .ptr (H.length + 2) 0, .ptr (H.length + 4) 0, .map (H.length + 5), .ptr (H.length + 6) 0, .func (.func 24) [] [.ptr (H.length + 6) 0, .ptr (H.length + 4) 0], .row (H.length + 8 + jw) (s.2.1 * 2) (s.1.length - s.2.1) 2]) (fun s => H ++ (baseL H.length ns us s.2.2.2.1 vs ((mapOf (H.length + 8) es c).map enc1) (solW vs s.2.2.1) ++ s.2.2.2.2)) (fun s => (s.1.length - s.2.1) + phi us.length (lq us) c s.2.2.1) (fun s => s.2.1 ≤ s.1.length ∧ s.2.2.2.2[jw]? = some (.row 2 ((s.1.map Pr.enc).flatten)) ∧ FromOk c es s.2.2.2.2 ∧ Lows us.length (lq us) c s.2.2.1 ∧ (∀ q ∈ c, q ∈ s.1.drop s.2.1 ∨ satP (lq us) s.2.2.1 q) ∧ (∀ q ∈ s.1, q ∈ c) ∧ JoinsOk ns us s.2.2.2.1 ∧ (s.1.length - s.2.1) + phi us.length (lq us) c s.2.2.1 ≤ 65 * c.length) (c, 0, (fun _ => bot), [], Lw) rfl rfl ⟨Nat.zero_le _, hrw, hF2, low_bot (fun _ => hbot), (fun q hq => .inl hq), (fun q hq => hq), (fun x hx => by cases hx), (by have := phi_le us.length (lq us) (fun _ => bot) c; simp only; have h64 : c.length * us.length ≤ c.length * 64 := Nat.mul_le_mul_left _ (by omega); omega)⟩ fun ⟨W, d, σ, js, L3⟩ ⟨o1, o2, o3, o4, o5, o6, o7, o8⟩ => ?_
  simp only at o1 o2 o3 o4 o5 o6 o7 o8 ⊢
  have hKl := base_len (H := H) (L := L3) (n := H.length) (ns := ns) (us := us) (js := js) (vs := vs) (F := (mapOf (H.length + 8) es c).map enc1) (sl := solW vs σ)
  have gk := fun k hk => base_get (H := H) (L := L3) (n := H.length) (ns := ns) (us := us) (js := js) (vs := vs) (F := (mapOf (H.length + 8) es c).map enc1) (sl := solW vs σ) k hk
  have g8 : ∀ j, (H ++ (baseL H.length ns us js vs ((mapOf (H.length + 8) es c).map enc1) (solW vs σ) ++ L3))[H.length + 8 + j]? = L3[j]? := fun j => base_tail j
  generalize hK : H ++ (baseL H.length ns us js vs ((mapOf (H.length + 8) es c).map enc1) (solW vs σ) ++ L3) = K at hKl gk g8 ⊢
  have gw : K[H.length + 8 + jw]? = some (.row 2 ((W.map Pr.enc).flatten)) := (g8 jw).trans o2
  have gb0 : K[H.length]? = some (.box [.vec (ns.map S1) false, .vec (us.map U1) false]) := gk 0 (by decide)
  have gb1 : K[H.length + 1]? = some (.map (js.map enc2)) := gk 1 (by decide)
  have gb2 : K[H.length + 2]? = some (.box [.vec (ns.map S1) false, .vec (us.map U1) false, .map (H.length + 1)]) := gk 2 (by decide)
  have gb3 : K[H.length + 3]? = some (.map ((atL vs).map enc1)) := gk 3 (by decide)
  have gb4 : K[H.length + 4]? = some (.box [.map (H.length + 3)]) := gk 4 (by decide)
  have gb5 : K[H.length + 5]? = some (.map ((mapOf (H.length + 8) es c).map enc1)) := gk 5 (by decide)
  have gb6 : K[H.length + 6]? = some (.box [.row (H.length + 7) 0 vs.length 2]) := gk 6 (by decide)
  have gb7 : K[H.length + 7]? = some (.row 2 (((solW vs σ).map So.enc).flatten)) := gk 7 (by decide)
  have hap : ∀ (j : Nat) (L : List Blk) (B : Blk), K[j]? = some B → (K ++ L)[j]? = some B := fun j L B h => by rw [List.getElem?_append_left (List.getElem?_eq_some_iff.1 h).1]; exact h
  refine awp_seq ?_
  refine awp_seq ?_
  refine awp_run rfl (by simp only [fwA, ↓reduceIte, Nat.reduceAdd, Nat.reduceMul, Nat.reduceEqDiff, Nat.reduceLT, Nat.reduceLeDiff, reduceCtorEq, bitfw, List.length_map, List.getElem?_map, Option.map_some, Int.natCast_nonneg, Int.toNat_natCast, decide_true, decide_false, Bool.and_true, Bool.and_self, Bool.not_true, Bool.not_false, Bool.false_and, Bool.true_and, el22, el23, el25, el26, el29, el32, el47, el79, el121, fl28_0, fl28_1, fl37_0, fl37_1, fl43_0, fl43_1, pl28, pl37, pl43, ti3, ti4, ti5, ti9, ti22, ti25, ti26, ti28, ti32, ti35, ti37, ti43, ti53, ti58, ti116, ti121, un3, un4, un5, un9, un22, un23, un25, un26, un29, un32, un35, un47, un53, un55, un58, un59, un79, un90, un113, un116, S1_fw, U1_fw, I1_fw, Pr.fw, So.fw, pl57, ti57, fl57_0, fl57_1, ti55, ti81] <;> rfl) ?_
  refine awp_cond (by simp only [fwA, ↓reduceIte, Nat.reduceAdd, Nat.reduceMul, Nat.reduceEqDiff, Nat.reduceLT, Nat.reduceLeDiff, reduceCtorEq] <;> rfl) ?_
  by_cases hc : (0 : Int) < ((W.length - d : Nat) : Int)
  rotate_left
  · simp only [hc, decide_false, Bool.false_eq_true, ↓reduceIte]
    refine awp_exit ?_
    have hsat : SolS us.length (lq us) c σ := ⟨o4.1, fun q hq => by
      rcases o5 q hq with h | h
      · rw [List.drop_eq_nil_of_le (by omega)] at h; cases h
      · exact h⟩
    refine awp_seq ?_
    refine awp_run rfl (by simp only [fwA, ↓reduceIte, Nat.reduceAdd, Nat.reduceMul, Nat.reduceEqDiff, Nat.reduceLT, Nat.reduceLeDiff, reduceCtorEq, bitfw, List.length_map, List.getElem?_map, Option.map_some, Int.natCast_nonneg, Int.toNat_natCast, decide_true, decide_false, Bool.and_true, Bool.and_self, Bool.not_true, Bool.not_false, Bool.false_and, Bool.true_and, el22, el23, el25, el26, el29, el32, el47, el79, el121, fl28_0, fl28_1, fl37_0, fl37_1, fl43_0, fl43_1, pl28, pl37, pl43, ti3, ti4, ti5, ti9, ti22, ti25, ti26, ti28, ti32, ti35, ti37, ti43, ti53, ti58, ti116, ti121, un3, un4, un5, un9, un22, un23, un25, un26, un29, un32, un35, un47, un53, un55, un58, un59, un79, un90, un113, un116, S1_fw, U1_fw, I1_fw, Pr.fw, So.fw, pl57, ti57, fl57_0, fl57_1, ti55, ti81, gb6] <;> rfl) ?_
    subst hK
    refine awp_told (told_freezeAt H _ 7 (C := ((solW vs σ).map So.enc).flatten) (by rw [List.getElem?_append_left (by show 7 < 8; decide)]; rfl) (flat_bd (fun t => by simp only [So.fw]) _)) ?_
    refine awp_ret ?_
    have hl1 := flat_len So.enc_len (solW vs σ)
    have hch := flat_chunk So.enc_len (solW vs σ)
    rw [solW_len] at hl1 hch
    refine hfin _ _ (solL c σ) true ⟨_, rfl⟩ ?_ ?_ (.inr ⟨hk, .inl ⟨σ, hsat, o4, rfl⟩⟩)
    · have : solL c σ = solW vs σ := by unfold solL solW; rw [hvs]
      rw [this]
      simp only [fwA, ↓reduceIte, Nat.reduceAdd, Nat.reduceMul, Nat.reduceEqDiff, Nat.reduceLT, Nat.reduceLeDiff, reduceCtorEq, hl1, hch, List.map_cons, List.map_nil]
    · simp only [fwA, ↓reduceIte, Nat.reduceAdd, Nat.reduceMul, Nat.reduceEqDiff, Nat.reduceLT, Nat.reduceLeDiff, reduceCtorEq, List.map_cons, List.map_nil]
  simp only [hc, decide_true, ↓reduceIte]
  refine awp_skip ?_
  have hd : d < W.length := by omega
  have gp : W[d]? = some W[d] := List.getElem?_eq_getElem hd
  generalize W[d] = p at gp
  have hpc : p ∈ c := o6 p (List.mem_of_getElem? gp)
  refine awp_block ?_
  refine awp_seq ?_
  refine awp_region rfl ?_
  refine aops_run 1 (by simp only [fwA, ↓reduceIte, Nat.reduceAdd, Nat.reduceMul, Nat.reduceEqDiff, Nat.reduceLT, Nat.reduceLeDiff, reduceCtorEq, bitfw, List.length_map, List.getElem?_map, Option.map_some, Int.natCast_nonneg, Int.toNat_natCast, decide_true, decide_false, Bool.and_true, Bool.and_self, Bool.not_true, Bool.not_false, Bool.false_and, Bool.true_and, el22, el23, el25, el26, el29, el32, el47, el79, el121, fl28_0, fl28_1, fl37_0, fl37_1, fl43_0, fl43_1, pl28, pl37, pl43, ti3, ti4, ti5, ti9, ti22, ti25, ti26, ti28, ti32, ti35, ti37, ti43, ti53, ti58, ti116, ti121, un3, un4, un5, un9, un22, un23, un25, un26, un29, un32, un35, un47, un53, un55, un58, un59, un79, un90, un113, un116, S1_fw, U1_fw, I1_fw, Pr.fw, So.fw, pl57, ti57, fl57_0, fl57_1, ti55, ti81] <;> rfl) ?_
  refine aops_one rfl (os_idxRow (i := 0) Pr.enc_len rfl el22 rfl rfl gw (by omega) (by omega) ?_)
  refine aops_one rfl (os_loadRow (i := d) (y := p) (p := .agg p.enc) Pr.enc_len rfl ti43 rfl gw (by omega) rfl gp rfl (by rw [if_pos rfl]) ?_)
  refine aops_run 2 (by simp only [fwA, ↓reduceIte, Nat.reduceAdd, Nat.reduceMul, Nat.reduceEqDiff, Nat.reduceLT, Nat.reduceLeDiff, reduceCtorEq, bitfw, List.length_map, List.getElem?_map, Option.map_some, Int.natCast_nonneg, Int.toNat_natCast, decide_true, decide_false, Bool.and_true, Bool.and_self, Bool.not_true, Bool.not_false, Bool.false_and, Bool.true_and, el22, el23, el25, el26, el29, el32, el47, el79, el121, fl28_0, fl28_1, fl37_0, fl37_1, fl43_0, fl43_1, pl28, pl37, pl43, ti3, ti4, ti5, ti9, ti22, ti25, ti26, ti28, ti32, ti35, ti37, ti43, ti53, ti58, ti116, ti121, un3, un4, un5, un9, un22, un23, un25, un26, un29, un32, un35, un47, un53, un55, un58, un59, un79, un90, un113, un116, S1_fw, U1_fw, I1_fw, Pr.fw, So.fw, pl57, ti57, fl57_0, fl57_1, ti55, ti81] <;> rfl) ?_
  refine aops_end ?_
  have gq : (K ++ [Blk.box p.enc])[K.length]? = some (.box p.enc) := by rw [Fw.get_at0]; rfl
  refine awp_seq ?_
  refine awp_region rfl ?_
  refine aops_run 1 (by simp only [fwA, ↓reduceIte, Nat.reduceAdd, Nat.reduceMul, Nat.reduceEqDiff, Nat.reduceLT, Nat.reduceLeDiff, reduceCtorEq, bitfw, List.length_map, List.getElem?_map, Option.map_some, Int.natCast_nonneg, Int.toNat_natCast, decide_true, decide_false, Bool.and_true, Bool.and_self, Bool.not_true, Bool.not_false, Bool.false_and, Bool.true_and, el22, el23, el25, el26, el29, el32, el47, el79, el121, fl28_0, fl28_1, fl37_0, fl37_1, fl43_0, fl43_1, pl28, pl37, pl43, ti3, ti4, ti5, ti9, ti22, ti25, ti26, ti28, ti32, ti35, ti37, ti43, ti53, ti58, ti116, ti121, un3, un4, un5, un9, un22, un23, un25, un26, un29, un32, un35, un47, un53, un55, un58, un59, un79, un90, un113, un116, S1_fw, U1_fw, I1_fw, Pr.fw, So.fw, pl57, ti57, fl57_0, fl57_1, ti55, ti81] <;> rfl) ?_
  refine aops_one rfl (os_sliceSuf (l := 1) rfl el22 rfl rfl (by omega) (hap _ _ _ gw) (by rw [flat_len Pr.enc_len]; omega) ?_)
  refine aops_run 1 (by simp only [fwA, ↓reduceIte, Nat.reduceAdd, Nat.reduceMul, Nat.reduceEqDiff, Nat.reduceLT, Nat.reduceLeDiff, reduceCtorEq, bitfw, List.length_map, List.getElem?_map, Option.map_some, Int.natCast_nonneg, Int.toNat_natCast, decide_true, decide_false, Bool.and_true, Bool.and_self, Bool.not_true, Bool.not_false, Bool.false_and, Bool.true_and, el22, el23, el25, el26, el29, el32, el47, el79, el121, fl28_0, fl28_1, fl37_0, fl37_1, fl43_0, fl43_1, pl28, pl37, pl43, ti3, ti4, ti5, ti9, ti22, ti25, ti26, ti28, ti32, ti35, ti37, ti43, ti53, ti58, ti116, ti121, un3, un4, un5, un9, un22, un23, un25, un26, un29, un32, un35, un47, un53, un55, un58, un59, un79, un90, un113, un116, S1_fw, U1_fw, I1_fw, Pr.fw, So.fw, pl57, ti57, fl57_0, fl57_1, ti55, ti81] <;> rfl) ?_
  refine aops_end ?_
  rw [show d * 2 + 1 * 2 = (d + 1) * 2 by omega, show W.length - d - 1 = W.length - (d + 1) by omega]
  have hIp := ho p hpc
  have hva : 0 ≤ p.a → p.a ∈ vs := fun h => by rw [← hvs]; exact (vars_mem c _).2 ⟨h, p, hpc, .inl rfl⟩
  have hvb : 0 ≤ p.b → p.b ∈ vs := fun h => by rw [← hvs]; exact (vars_mem c _).2 ⟨h, p, hpc, .inr rfl⟩
  have h24a := c24 Γ vs σ p.a hIp.1 hvn hva (K ++ [Blk.box p.enc]) (H.length + 6) (H.length + 4) (H.length + 7) (H.length + 3) (hap _ _ _ gb6) (hap _ _ _ gb4) (hap _ _ _ gb7) (hap _ _ _ gb3)
  have h24b := c24 Γ vs σ p.b hIp.2 hvn hvb (K ++ [Blk.box p.enc]) (H.length + 6) (H.length + 4) (H.length + 7) (H.length + 3) (hap _ _ _ gb6) (hap _ _ _ gb4) (hap _ _ _ gb7) (hap _ _ _ gb3)
  refine awp_seq ?_
  refine awp_drawn [0, 0, 1, 1, 0, 0, 1, 1, 0, 0] [0, 0, 2, 7, 0, 0, 32, 127, 255, 511] mixed rfl (by kernel_rfl) ?_
  refine dops_run 3 (by simp only [fwA, ↓reduceIte, Nat.reduceAdd, Nat.reduceMul, Nat.reduceEqDiff, Nat.reduceLT, Nat.reduceLeDiff, reduceCtorEq, bitfw, List.length_map, List.getElem?_map, Option.map_some, Int.natCast_nonneg, Int.toNat_natCast, decide_true, decide_false, Bool.and_true, Bool.and_self, Bool.not_true, Bool.not_false, Bool.false_and, Bool.true_and, el22, el23, el25, el26, el29, el32, el47, el79, el121, fl28_0, fl28_1, fl37_0, fl37_1, fl43_0, fl43_1, pl28, pl37, pl43, ti3, ti4, ti5, ti9, ti22, ti25, ti26, ti28, ti32, ti35, ti37, ti43, ti53, ti58, ti116, ti121, un3, un4, un5, un9, un22, un23, un25, un26, un29, un32, un35, un47, un53, un55, un58, un59, un79, un90, un113, un116, S1_fw, U1_fw, I1_fw, Pr.fw, So.fw, pl57, ti57, fl57_0, fl57_1, ti55, ti81, gq, Pr.fw] <;> rfl) ?_
  refine dops_rcall (p := .int .i64 ((vl σ p.a : Nat) : Int)) rfl rfl rfl rfl en24 h24a ?_
  refine dops_run 3 (by simp only [fwA, ↓reduceIte, Nat.reduceAdd, Nat.reduceMul, Nat.reduceEqDiff, Nat.reduceLT, Nat.reduceLeDiff, reduceCtorEq, bitfw, List.length_map, List.getElem?_map, Option.map_some, Int.natCast_nonneg, Int.toNat_natCast, decide_true, decide_false, Bool.and_true, Bool.and_self, Bool.not_true, Bool.not_false, Bool.false_and, Bool.true_and, el22, el23, el25, el26, el29, el32, el47, el79, el121, fl28_0, fl28_1, fl37_0, fl37_1, fl43_0, fl43_1, pl28, pl37, pl43, ti3, ti4, ti5, ti9, ti22, ti25, ti26, ti28, ti32, ti35, ti37, ti43, ti53, ti58, ti116, ti121, un3, un4, un5, un9, un22, un23, un25, un26, un29, un32, un35, un47, un53, un55, un58, un59, un79, un90, un113, un116, S1_fw, U1_fw, I1_fw, Pr.fw, So.fw, pl57, ti57, fl57_0, fl57_1, ti55, ti81, gq, Pr.fw] <;> rfl) ?_
  refine dops_rcall (p := .int .i64 ((vl σ p.b : Nat) : Int)) rfl rfl rfl rfl en24 h24b ?_
  refine dops_run 2 (by simp only [fwA, ↓reduceIte, Nat.reduceAdd, Nat.reduceMul, Nat.reduceEqDiff, Nat.reduceLT, Nat.reduceLeDiff, reduceCtorEq, bitfw, List.length_map, List.getElem?_map, Option.map_some, Int.natCast_nonneg, Int.toNat_natCast, decide_true, decide_false, Bool.and_true, Bool.and_self, Bool.not_true, Bool.not_false, Bool.false_and, Bool.true_and, el22, el23, el25, el26, el29, el32, el47, el79, el121, fl28_0, fl28_1, fl37_0, fl37_1, fl43_0, fl43_1, pl28, pl37, pl43, ti3, ti4, ti5, ti9, ti22, ti25, ti26, ti28, ti32, ti35, ti37, ti43, ti53, ti58, ti116, ti121, un3, un4, un5, un9, un22, un23, un25, un26, un29, un32, un35, un47, un53, un55, un58, un59, un79, un90, un113, un116, S1_fw, U1_fw, I1_fw, Pr.fw, So.fw, pl57, ti57, fl57_0, fl57_1, ti55, ti81] <;> rfl) ?_
  refine dops_end ?_
  have hla := vl_lt o4.1 (hP p hpc).1
  have hlb := vl_lt o4.1 (hP p hpc).2
  have h13 := c13 Γ ns us hw ((vl σ p.a : Nat) : Int) ((vl σ p.b : Nat) : Int)
  rw [leq_nat r2 hla hlb] at h13
  refine awp_seq ?_
  refine awp_seq ?_
  cases hle : lq us (vl σ p.a) (vl σ p.b)
  rotate_left
  · rw [hle] at h13
    refine awp_region rfl ?_
    refine aops_run 3 (by simp only [fwA, ↓reduceIte, Nat.reduceAdd, Nat.reduceMul, Nat.reduceEqDiff, Nat.reduceLT, Nat.reduceLeDiff, reduceCtorEq, bitfw, List.length_map, List.getElem?_map, Option.map_some, Int.natCast_nonneg, Int.toNat_natCast, decide_true, decide_false, Bool.and_true, Bool.and_self, Bool.not_true, Bool.not_false, Bool.false_and, Bool.true_and, el22, el23, el25, el26, el29, el32, el47, el79, el121, fl28_0, fl28_1, fl37_0, fl37_1, fl43_0, fl43_1, pl28, pl37, pl43, ti3, ti4, ti5, ti9, ti22, ti25, ti26, ti28, ti32, ti35, ti37, ti43, ti53, ti58, ti116, ti121, un3, un4, un5, un9, un22, un23, un25, un26, un29, un32, un35, un47, un53, un55, un58, un59, un79, un90, un113, un116, S1_fw, U1_fw, I1_fw, Pr.fw, So.fw, pl57, ti57, fl57_0, fl57_1, ti55, ti81, hap _ _ _ gb0] <;> rfl) ?_
    refine aops_fn rfl rfl rfl en13 h13 ?_
    refine aops_end ?_
    refine awp_cond (b := true) (by simp [alook, aput, ev]) ?_
    refine awp_exit ?_
    refine ⟨(W, d + 1, σ, js, L3 ++ [Blk.box p.enc]), by simp only; omega, ?_, ?_, ?_, rfl⟩
    · refine ⟨by simp only; omega, ?_, from_mono o3 _, o4, fun q hq => ?_, o6, o7, by simp only; omega⟩
      · simp only
        rw [List.getElem?_append_left (List.getElem?_eq_some_iff.1 o2).1]; exact o2
      · rcases o5 q hq with h | h
        · rw [List.drop_eq_getElem_cons hd] at h
          rcases List.mem_cons.1 h with h | h
          · refine .inr ?_
            have : W[d] = p := (List.getElem?_eq_some_iff.1 gp).2
            rw [h, this]; exact hle
          · exact .inl h
        · exact .inr h
    · simp only [fwA, ↓reduceIte, Nat.reduceAdd, Nat.reduceMul, Nat.reduceEqDiff, Nat.reduceLT, Nat.reduceLeDiff, reduceCtorEq, List.map_cons, List.map_nil]
    · rw [← hK]; simp only [List.append_assoc]
  rw [hle] at h13
  refine awp_region rfl ?_
  refine aops_run 3 (by simp only [fwA, ↓reduceIte, Nat.reduceAdd, Nat.reduceMul, Nat.reduceEqDiff, Nat.reduceLT, Nat.reduceLeDiff, reduceCtorEq, bitfw, List.length_map, List.getElem?_map, Option.map_some, Int.natCast_nonneg, Int.toNat_natCast, decide_true, decide_false, Bool.and_true, Bool.and_self, Bool.not_true, Bool.not_false, Bool.false_and, Bool.true_and, el22, el23, el25, el26, el29, el32, el47, el79, el121, fl28_0, fl28_1, fl37_0, fl37_1, fl43_0, fl43_1, pl28, pl37, pl43, ti3, ti4, ti5, ti9, ti22, ti25, ti26, ti28, ti32, ti35, ti37, ti43, ti53, ti58, ti116, ti121, un3, un4, un5, un9, un22, un23, un25, un26, un29, un32, un35, un47, un53, un55, un58, un59, un79, un90, un113, un116, S1_fw, U1_fw, I1_fw, Pr.fw, So.fw, pl57, ti57, fl57_0, fl57_1, ti55, ti81, hap _ _ _ gb0] <;> rfl) ?_
  refine aops_fn rfl rfl rfl en13 h13 ?_
  refine aops_end ?_
  refine awp_cond (b := false) (by simp [alook, aput, ev]) (awp_skip ?_)
  have h15 := c15 Γ p.b
  refine awp_seq ?_
  refine awp_seq ?_
  refine awp_region rfl ?_
  refine aops_run 2 (by simp only [fwA, ↓reduceIte, Nat.reduceAdd, Nat.reduceMul, Nat.reduceEqDiff, Nat.reduceLT, Nat.reduceLeDiff, reduceCtorEq, bitfw, List.length_map, List.getElem?_map, Option.map_some, Int.natCast_nonneg, Int.toNat_natCast, decide_true, decide_false, Bool.and_true, Bool.and_self, Bool.not_true, Bool.not_false, Bool.false_and, Bool.true_and, el22, el23, el25, el26, el29, el32, el47, el79, el121, fl28_0, fl28_1, fl37_0, fl37_1, fl43_0, fl43_1, pl28, pl37, pl43, ti3, ti4, ti5, ti9, ti22, ti25, ti26, ti28, ti32, ti35, ti37, ti43, ti53, ti58, ti116, ti121, un3, un4, un5, un9, un22, un23, un25, un26, un29, un32, un35, un47, un53, un55, un58, un59, un79, un90, un113, un116, S1_fw, U1_fw, I1_fw, Pr.fw, So.fw, pl57, ti57, fl57_0, fl57_1, ti55, ti81, gq, Pr.fw] <;> rfl) ?_
  refine aops_fn rfl rfl rfl en15 h15 ?_
  refine aops_end ?_
  by_cases h0 : p.b < 0
  · rw [decide_eq_true h0]
    refine awp_cond (b := true) (by simp [alook, aput, ev]) ?_
    refine awp_seq ?_
    refine awp_run rfl (by simp only [fwA, ↓reduceIte, Nat.reduceAdd, Nat.reduceMul, Nat.reduceEqDiff, Nat.reduceLT, Nat.reduceLeDiff, reduceCtorEq] <;> rfl) ?_
    refine awp_told (told_le 4 (.vec [] false) ⟨nofun, PV.leLL_refl _⟩) ?_
    refine awp_ret ?_
    exact hfin _ _ [] false ⟨_, by rw [← hK, List.append_assoc]⟩ rfl rfl (.inr ⟨hk, .inr ⟨low_fail r5.toOrd hP o4 hpc h0 hle, rfl⟩⟩)
  rw [decide_eq_false h0]
  refine awp_cond (b := false) (by simp [alook, aput, ev]) (awp_skip ?_)
  obtain ⟨k, hkv⟩ := List.getElem?_of_mem (hvb (by omega))
  have hkl := (List.getElem?_eq_some_iff.1 hkv).1
  have hvl2 : vl σ p.b = σ p.b := by unfold vl; rw [if_neg h0]
  rw [hvl2] at hle hlb
  obtain ⟨j, ej, hj⟩ := join_nat hR hla hlb
  have hleq : leqB (min ns.length us.length) us ((vl σ p.a : Nat) : Int) ((σ p.b : Nat) : Int) = false := by rw [leq_nat r2 hla hlb]; exact hle
  have gv : ∀ (b : Nat) (B : Blk), K[b]? = some B → b ≠ H.length + 1 → ((K ++ [Blk.box p.enc]).set (H.length + 1) Blk.dead)[b]? = some B := fun b B h hne => by rw [List.getElem?_set_ne (Ne.symm hne)]; exact hap _ _ _ h
  have gv6 := gv _ _ gb6 (by omega)
  have gv4 := gv _ _ gb4 (by omega)
  have gv2 := gv _ _ gb2 (by omega)
  have gvq : ((K ++ [Blk.box p.enc]).set (H.length + 1) Blk.dead)[K.length]? = some (.box p.enc) := by rw [List.getElem?_set_ne (by omega)]; exact gq
  have hKl1 : (K ++ [Blk.box p.enc]).length = K.length + 1 := by simp
  refine awp_seq ?_
  refine awp_drawnX (some (H.length + 1)) [4, 4, 0, 4, 4, 4, 0, 0, 5, 1, 0, 2] [0, 0, 0, 4, 14, 0, 0, 0, 224, 511, 1023, 2047] mixed rfl (by kernel_rfl) ?_
  refine dops_run 4 (by simp only [fwA, ↓reduceIte, Nat.reduceAdd, Nat.reduceMul, Nat.reduceEqDiff, Nat.reduceLT, Nat.reduceLeDiff, reduceCtorEq, bitfw, List.length_map, List.getElem?_map, Option.map_some, Int.natCast_nonneg, Int.toNat_natCast, decide_true, decide_false, Bool.and_true, Bool.and_self, Bool.not_true, Bool.not_false, Bool.false_and, Bool.true_and, el22, el23, el25, el26, el29, el32, el47, el79, el121, fl28_0, fl28_1, fl37_0, fl37_1, fl43_0, fl43_1, pl28, pl37, pl43, ti3, ti4, ti5, ti9, ti22, ti25, ti26, ti28, ti32, ti35, ti37, ti43, ti53, ti58, ti116, ti121, un3, un4, un5, un9, un22, un23, un25, un26, un29, un32, un35, un47, un53, un55, un58, un59, un79, un90, un113, un116, S1_fw, U1_fw, I1_fw, Pr.fw, So.fw, pl57, ti57, fl57_0, fl57_1, ti55, ti81, gv6, gv4, gvq, Pr.fw] <;> rfl) ?_
  refine dops_at4 (.int .i64 (k : Int)) rfl rfl (fun H2 k1 k2 A' hev => os_lookup (r := some (k, .int .i64 (k : Int))) (z := .any) rfl un58 un35' (by rw [hev _ (by simp [Op.operands])]; rfl) ((hev _ (by simp [Op.operands])).trans rfl) ((vw_get k2 (by show H.length + 3 < (K ++ [Blk.box p.enc]).length; omega) (by simp)).trans (hap _ _ _ gb3)) (by rw [hev _ (by simp [Op.operands])]; exact (mfind1 p.b _ 0).trans (by rw [atL_find hvn hkv])) (fun h => by cases h) ⟨rfl, rfl⟩) ?_
  refine dops_run 3 (by simp only [fwA, ↓reduceIte, Nat.reduceAdd, Nat.reduceMul, Nat.reduceEqDiff, Nat.reduceLT, Nat.reduceLeDiff, reduceCtorEq, bitfw, List.length_map, List.getElem?_map, Option.map_some, Int.natCast_nonneg, Int.toNat_natCast, decide_true, decide_false, Bool.and_true, Bool.and_self, Bool.not_true, Bool.not_false, Bool.false_and, Bool.true_and, el22, el23, el25, el26, el29, el32, el47, el79, el121, fl28_0, fl28_1, fl37_0, fl37_1, fl43_0, fl43_1, pl28, pl37, pl43, ti3, ti4, ti5, ti9, ti22, ti25, ti26, ti28, ti32, ti35, ti37, ti43, ti53, ti58, ti116, ti121, un3, un4, un5, un9, un22, un23, un25, un26, un29, un32, un35, un47, un53, un55, un58, un59, un79, un90, un113, un116, S1_fw, U1_fw, I1_fw, Pr.fw, So.fw, pl57, ti57, fl57_0, fl57_1, ti55, ti81, gv2] <;> rfl) ?_
  have h27 : ∀ H2 : List Blk, H.length + 1 < H2.length → H2[H.length + 1]? = (K ++ [Blk.box p.enc])[H.length + 1]? → ACalls Tryd.prog Γ 27 [.agg [.vec (ns.map S1) false, .vec (us.map U1) false, .map (H.length + 1)], .int .i64 ((vl σ p.a : Nat) : Int), .int .i64 ((vl σ p.b : Nat) : Int)] H2 (fun q H1 => q = .int .i64 (j : Int) ∧ H1 = H2.set (H.length + 1) (.map ((joinsTo ns us js ((vl σ p.a : Nat) : Int) ((σ p.b : Nat) : Int)).map enc2))) := fun H2 _ e => by
    have := c27 Γ hΓ ns us hw ((vl σ p.a : Nat) : Int) ((σ p.b : Nat) : Int) (H.length + 1) js o7 hleq H2 (e.trans (hap _ _ _ gb1))
    rw [ej] at this
    rw [hvl2]; exact this
  refine dops_turn (b := H.length + 1) rfl rfl rfl rfl en27 rfl (by show H.length + 1 < (K ++ [Blk.box p.enc]).length; omega) (by omega) h27 ?_
  have gr7 : ((K ++ [Blk.box p.enc]).set (H.length + 1) (.map ((joinsTo ns us js ((vl σ p.a : Nat) : Int) ((σ p.b : Nat) : Int)).map enc2)))[H.length + 7]? = some (.row 2 (((solW vs σ).map So.enc).flatten)) := by rw [List.getElem?_set_ne (by omega)]; exact hap _ _ _ gb7
  refine dops_idxRow (i := k) So.enc_len rfl rfl rfl el32 rfl rfl gr7 (by rw [solW_len]; omega) hkl ?_
  refine dops_run 1 (by simp only [fwA, ↓reduceIte, Nat.reduceAdd, Nat.reduceMul, Nat.reduceEqDiff, Nat.reduceLT, Nat.reduceLeDiff, reduceCtorEq, bitfw, List.length_map, List.getElem?_map, Option.map_some, Int.natCast_nonneg, Int.toNat_natCast, decide_true, decide_false, Bool.and_true, Bool.and_self, Bool.not_true, Bool.not_false, Bool.false_and, Bool.true_and, el22, el23, el25, el26, el29, el32, el47, el79, el121, fl28_0, fl28_1, fl37_0, fl37_1, fl43_0, fl43_1, pl28, pl37, pl43, ti3, ti4, ti5, ti9, ti22, ti25, ti26, ti28, ti32, ti35, ti37, ti43, ti53, ti58, ti116, ti121, un3, un4, un5, un9, un22, un23, un25, un26, un29, un32, un35, un47, un53, un55, un58, un59, un79, un90, un113, un116, S1_fw, U1_fw, I1_fw, Pr.fw, So.fw, pl57, ti57, fl57_0, fl57_1, ti55, ti81] <;> rfl) ?_
  refine dops_turns (H' := ((K ++ [Blk.box p.enc]).set (H.length + 1) (.map ((joinsTo ns us js ((vl σ p.a : Nat) : Int) ((σ p.b : Nat) : Int)).map enc2))).set (H.length + 7) (.row 2 (((solW vs (upd σ p.b j)).map So.enc).flatten))) .any rfl rfl (fun A' hev => os_storeE rfl ti3 ((hev _ (by simp [Op.operands])).trans rfl) gr7 (by rw [flat_len So.enc_len]) (by rw [hev _ (by simp [Op.operands])]; rfl) (by rw [hev _ (by simp [Op.operands])]; rfl) (by rw [flat_len So.enc_len, solW_len]; show k * 2 + 1 + 1 ≤ vs.length * 2; omega) (by decide) ⟨rfl, by
    rw [hev _ (by simp [Op.operands])]
    show List.set _ _ (Blk.row 2 (splice _ (k * 2 + 1) [.int .i64 (j : Int)])) = _
    rw [so_put (j : Int) (solW_get hkv), solW_upd hvn hkv]⟩) ?_
  refine dops_end ?_
  have hjs := o7.to ((vl σ p.a : Nat) : Int) ((σ p.b : Nat) : Int)
  generalize joinsTo ns us js ((vl σ p.a : Nat) : Int) ((σ p.b : Nat) : Int) = js' at hjs ⊢
  have hrise := step_rise r5.toOrd o4.1 hla hle hj
  have hphi := phi_upd hrise (by omega) c
  have hne : p.a ≠ p.b := fun e => by
    have h1 : vl σ p.a = σ p.b := by rw [e]; exact hvl2
    rw [h1, r5.refl _ hlb] at hle; cases hle
  have hws := work_step gp o5 (by omega) r5.toOrd hP o4.1 hpc hj hne
  have hlow := low_step r5.toOrd hP o4 hpc (by omega) hj
  generalize hσ' : upd σ p.b j = σ' at hphi hws hlow ⊢
  refine awp_heap (H' := H ++ (baseL H.length ns us js' vs ((mapOf (H.length + 8) es c).map enc1) (solW vs σ') ++ (L3 ++ [Blk.box p.enc]))) (by rw [← hK, List.append_assoc H, List.append_assoc (baseL _ _ _ _ _ _ _), base_set1, base_set7]) ?_
  have hjl : jw < L3.length := (List.getElem?_eq_some_iff.1 o2).1
  have hK2 : ∀ (k : Nat), k < 8 → (H ++ (baseL H.length ns us js' vs ((mapOf (H.length + 8) es c).map enc1) (solW vs σ') ++ (L3 ++ [Blk.box p.enc])))[H.length + k]? = (baseL H.length ns us js' vs ((mapOf (H.length + 8) es c).map enc1) (solW vs σ'))[k]? := fun k h => base_get k h
  have hT2 : ∀ j, (H ++ (baseL H.length ns us js' vs ((mapOf (H.length + 8) es c).map enc1) (solW vs σ') ++ (L3 ++ [Blk.box p.enc])))[H.length + 8 + j]? = (L3 ++ [Blk.box p.enc])[j]? := fun j => base_tail j
  have hS2 : ∀ B, (H ++ (baseL H.length ns us js' vs ((mapOf (H.length + 8) es c).map enc1) (solW vs σ') ++ (L3 ++ [Blk.box p.enc]))).set (H.length + 8 + jw) B = H ++ (baseL H.length ns us js' vs ((mapOf (H.length + 8) es c).map enc1) (solW vs σ') ++ (L3 ++ [Blk.box p.enc]).set jw B) := fun B => base_set8 jw B
  generalize H ++ (baseL H.length ns us js' vs ((mapOf (H.length + 8) es c).map enc1) (solW vs σ') ++ (L3 ++ [Blk.box p.enc])) = K2 at hK2 hT2 hS2 ⊢
  have q5 : K2[H.length + 5]? = some (.map ((mapOf (H.length + 8) es c).map enc1)) := hK2 5 (by decide)
  have qq : K2[K.length]? = some (.box p.enc) := by rw [hKl, hT2, List.getElem?_append_right (Nat.le_refl _), Nat.sub_self]; rfl
  have qw : K2[H.length + 8 + jw]? = some (.row 2 ((W.map Pr.enc).flatten)) := by rw [hT2, List.getElem?_append_left hjl]; exact o2
  refine awp_region rfl ?_
  refine aops_run 4 (by simp only [fwA, ↓reduceIte, Nat.reduceAdd, Nat.reduceMul, Nat.reduceEqDiff, Nat.reduceLT, Nat.reduceLeDiff, reduceCtorEq, bitfw, List.length_map, List.getElem?_map, Option.map_some, Int.natCast_nonneg, Int.toNat_natCast, decide_true, decide_false, Bool.and_true, Bool.and_self, Bool.not_true, Bool.not_false, Bool.false_and, Bool.true_and, el22, el23, el25, el26, el29, el32, el47, el79, el121, fl28_0, fl28_1, fl37_0, fl37_1, fl43_0, fl43_1, pl28, pl37, pl43, ti3, ti4, ti5, ti9, ti22, ti25, ti26, ti28, ti32, ti35, ti37, ti43, ti53, ti58, ti116, ti121, un3, un4, un5, un9, un22, un23, un25, un26, un29, un32, un35, un47, un53, un55, un58, un59, un79, un90, un113, un116, S1_fw, U1_fw, I1_fw, Pr.fw, So.fw, pl57, ti57, fl57_0, fl57_1, ti55, ti81, qq, Pr.fw] <;> rfl) ?_
  have hWl : ((W.map Pr.enc).flatten).length = (d + 1) * 2 + (W.length - (d + 1)) * 2 := by rw [flat_len Pr.enc_len]; omega
  have hbnd : W.length - (d + 1) + (fl c p.b).length ≤ 65 * c.length := by omega
  have hok : d + 1 ≤ (W ++ fl c p.b).length ∧ ((L3 ++ [Blk.box p.enc]).set jw (.row 2 (((W ++ fl c p.b).map Pr.enc).flatten)))[jw]? = some (.row 2 (((W ++ fl c p.b).map Pr.enc).flatten)) ∧ FromOk c es ((L3 ++ [Blk.box p.enc]).set jw (.row 2 (((W ++ fl c p.b).map Pr.enc).flatten))) ∧ Lows us.length (lq us) c σ' ∧ (∀ q ∈ c, q ∈ (W ++ fl c p.b).drop (d + 1) ∨ satP (lq us) σ' q) ∧ (∀ q ∈ W ++ fl c p.b, q ∈ c) ∧ JoinsOk ns us js' ∧ ((W ++ fl c p.b).length - (d + 1)) + phi us.length (lq us) c σ' ≤ 65 * c.length := by
    refine ⟨by rw [List.length_append]; omega, List.getElem?_set_self (by rw [List.length_append]; omega), from_set (from_mono o3 _) hjw _, hlow, hws, fun q hq => ?_, hjs, by rw [List.length_append]; omega⟩
    rcases List.mem_append.1 hq with h | h
    · exact o6 q h
    · exact (fl_mem.1 h).1
  have hμ : ((W ++ fl c p.b).length - (d + 1)) + phi us.length (lq us) c σ' < (W.length - d) + phi us.length (lq us) c σ := by rw [List.length_append]; omega
  have hap2 : ((W ++ fl c p.b).map Pr.enc).flatten = (W.map Pr.enc).flatten ++ ((fl c p.b).map Pr.enc).flatten := by rw [List.map_append, List.flatten_append]
  have hln : W.length - (d + 1) + (fl c p.b).length = (W ++ fl c p.b).length - (d + 1) := by rw [List.length_append]; omega
  rcases from_find o3 (H.length + 8) p.b with ⟨f1, f2, f3⟩ | ⟨k', j', f1, f2⟩
  · refine aops_one rfl (os_lookup (r := none) (z := .vec [] true) rfl un59 un35' rfl rfl q5 ((mfind1 p.b _ 0).trans (by rw [f1])) (fun _ => zero1_spec z22) ?_)
    refine aops_one rfl (os_appendR (n := 0) rfl un22 ti43 un22 (.inl ⟨_, rfl⟩) rfl qw hWl rfl (fun es f h e he => by
      simp only [fwA, ↓reduceIte, Nat.reduceAdd, Nat.reduceMul, Nat.reduceEqDiff, Nat.reduceLT, Nat.reduceLeDiff, reduceCtorEq, gotOr, PV.vec.injEq] at h
      obtain ⟨rfl, rfl⟩ := h
      cases he) rfl (by show (_ + 0) * 16 ≤ _; omega) (by show _ + 0 ≤ _; omega) ?_)
    refine aops_run 1 (by simp only [fwA, ↓reduceIte, Nat.reduceAdd, Nat.reduceMul, Nat.reduceEqDiff, Nat.reduceLT, Nat.reduceLeDiff, reduceCtorEq, bitfw, List.length_map, List.getElem?_map, Option.map_some, Int.natCast_nonneg, Int.toNat_natCast, decide_true, decide_false, Bool.and_true, Bool.and_self, Bool.not_true, Bool.not_false, Bool.false_and, Bool.true_and, el22, el23, el25, el26, el29, el32, el47, el79, el121, fl28_0, fl28_1, fl37_0, fl37_1, fl43_0, fl43_1, pl28, pl37, pl43, ti3, ti4, ti5, ti9, ti22, ti25, ti26, ti28, ti32, ti35, ti37, ti43, ti53, ti58, ti116, ti121, un3, un4, un5, un9, un22, un23, un25, un26, un29, un32, un35, un47, un53, un55, un58, un59, un79, un90, un113, un116, S1_fw, U1_fw, I1_fw, Pr.fw, So.fw, pl57, ti57, fl57_0, fl57_1, ti55, ti81] <;> rfl) ?_
    refine aops_end ?_
    refine ⟨(W ++ fl c p.b, d + 1, σ', js', (L3 ++ [Blk.box p.enc]).set jw (.row 2 (((W ++ fl c p.b).map Pr.enc).flatten))), hμ, hok, ?_, ?_, rfl⟩
    · simp only [fwA, ↓reduceIte, Nat.reduceAdd, Nat.reduceMul, Nat.reduceEqDiff, Nat.reduceLT, Nat.reduceLeDiff, reduceCtorEq, List.map_cons, List.map_nil, ← hln, f3, List.length_nil, List.append_nil]
    · simp only
      rw [← hS2, hap2, f3]; rfl
  · refine aops_one rfl (os_lookup (r := some (k', .row (H.length + 8 + j') 0 (fl c p.b).length 2)) (z := .any) rfl un59 un35' rfl rfl q5 ((mfind1 p.b _ 0).trans (by rw [f2])) (fun h => by cases h) ?_)
    have hm := List.mem_of_getElem? f1
    have hsrc : srcOf K2 2 (.row (H.length + 8 + j') 0 (fl c p.b).length 2) = some (((fl c p.b).map Pr.enc).flatten) := by
      unfold srcOf
      have : K2[H.length + 8 + j']? = some (.row 2 (((fl c p.b).map Pr.enc).flatten)) := by
        rw [hT2, List.getElem?_append_left (from_len o3 hm)]; exact o3.k4 _ hm
      simp only [this]
      rw [if_pos ⟨trivial, trivial, by rw [flat_len Pr.enc_len]; omega, by rw [List.drop_zero]; exact flat_bd (fun _ => rfl) _⟩, List.drop_zero]
    refine aops_one rfl (os_appendR (n := (fl c p.b).length) rfl un22 ti43 un22 (.inl ⟨_, rfl⟩) rfl qw hWl hsrc (fun es f h e he => by
      have h' : PV.row (H.length + 8 + j') 0 (fl c p.b).length 2 = PV.vec es f := h
      cases h') rfl (by show (_ + _) * 16 ≤ _; omega) (by omega) ?_)
    refine aops_run 1 (by simp only [fwA, ↓reduceIte, Nat.reduceAdd, Nat.reduceMul, Nat.reduceEqDiff, Nat.reduceLT, Nat.reduceLeDiff, reduceCtorEq, bitfw, List.length_map, List.getElem?_map, Option.map_some, Int.natCast_nonneg, Int.toNat_natCast, decide_true, decide_false, Bool.and_true, Bool.and_self, Bool.not_true, Bool.not_false, Bool.false_and, Bool.true_and, el22, el23, el25, el26, el29, el32, el47, el79, el121, fl28_0, fl28_1, fl37_0, fl37_1, fl43_0, fl43_1, pl28, pl37, pl43, ti3, ti4, ti5, ti9, ti22, ti25, ti26, ti28, ti32, ti35, ti37, ti43, ti53, ti58, ti116, ti121, un3, un4, un5, un9, un22, un23, un25, un26, un29, un32, un35, un47, un53, un55, un58, un59, un79, un90, un113, un116, S1_fw, U1_fw, I1_fw, Pr.fw, So.fw, pl57, ti57, fl57_0, fl57_1, ti55, ti81] <;> rfl) ?_
    refine aops_end ?_
    refine ⟨(W ++ fl c p.b, d + 1, σ', js', (L3 ++ [Blk.box p.enc]).set jw (.row 2 (((W ++ fl c p.b).map Pr.enc).flatten))), hμ, hok, ?_, ?_, rfl⟩
    · simp only [fwA, ↓reduceIte, Nat.reduceAdd, Nat.reduceMul, Nat.reduceEqDiff, Nat.reduceLT, Nat.reduceLeDiff, reduceCtorEq, List.map_cons, List.map_nil, ← hln]
    · simp only
      rw [← hS2, hap2]

end Go.Proofs.YtpkpbfemglmejaaDoor

/- The contracts of the law's own functions: points, bottoms, tops. -/
namespace Go.Proofs.YtpkpbfemglmejaaDoor
set_option linter.unusedVariables false
set_option linter.unusedSimpArgs false
set_option maxRecDepth 100000
open Go.RowKit Fw

/-- An atom, of a point one of so many, of a variable one of ten. -/
def ptV (n : Nat) (a : Int) : Int := if a < 0 then -1 - (-1 - a).tmod (n : Int) else a.tmod 10
theorem tmod_bd {a : Int} {n : Nat} (h0 : 0 ≤ a) (hn : 0 < n) : 0 ≤ a.tmod (n : Int) ∧ a.tmod (n : Int) < n := by
  rw [tmod_nat h0]
  have := Nat.mod_lt a.toNat hn
  omega
/- chancel/chancellaw11.point -/
theorem c23 (Γ : Nat → PV) (ns : List (List UInt8)) (us : List Nat) (hn : 0 < ns.length) (a : Int) (ha : I64 a) : Gives Tryd.prog Γ 23 [.agg [.vec (ns.map S1) false, .vec (us.map U1) false], .int .i64 a] (.int .i64 (ptV ns.length a)) := by
  have h25 := c25 Γ a ha
  refine fn_of_awp Tryd.func23 rfl (by simp [Tryd.f23]) rfl fun H => ?_
  refine awp_seq ?_
  refine awp_run rfl (by simp only [fwA, ↓reduceIte, Nat.reduceAdd, Nat.reduceMul, Nat.reduceEqDiff, Nat.reduceLT, Nat.reduceLeDiff, reduceCtorEq] <;> rfl) ?_
  refine awp_seq ?_
  refine awp_seq ?_
  refine awp_run rfl (by simp only [fwA, ↓reduceIte, Nat.reduceAdd, Nat.reduceMul, Nat.reduceEqDiff, Nat.reduceLT, Nat.reduceLeDiff, reduceCtorEq] <;> rfl) ?_
  unfold ptV
  by_cases h0 : a < 0
  · obtain ⟨b1, b2⟩ := tmod_bd (a := -1 - a) (n := ns.length) (by omega) hn
    have b3 : (-1 - a).tmod (ns.length : Int) ≤ -1 - a := by
      rw [tmod_nat (by omega)]
      have := Nat.mod_le (-1 - a).toNat ns.length
      omega
    have hp : pointOf a = -1 - a := by unfold pointOf; rw [if_neg (by omega)]
    rw [hp] at h25
    have h21 := c21 Γ ((-1 - a).tmod (ns.length : Int)) ⟨by omega, by have := ha.1; omega⟩
    rw [if_neg (by omega)] at h21
    have hz : ¬ ((ns.length : Int) = 0) := by omega
    rw [if_pos h0]
    refine awp_cond (b := true) (by simp [alook, aput, ev, h0]) ?_
    refine awp_seq ?_
    refine awp_drawn [0, 0, 0, 1, 0, 0, 0, 0] [0, 1, 0, 4, 12, 31, 63, 127] mixed rfl (by kernel_rfl) ?_
    refine dops_run 1 (by simp only [fwA, ↓reduceIte, Nat.reduceAdd, Nat.reduceMul, Nat.reduceEqDiff, Nat.reduceLT, Nat.reduceLeDiff, reduceCtorEq, bitfw, List.length_map, List.getElem?_map, Option.map_some, Int.natCast_nonneg, Int.toNat_natCast, decide_true, decide_false, Bool.and_true, Bool.and_self, Bool.not_true, Bool.not_false, Bool.false_and, Bool.true_and, el22, el23, el25, el26, el29, el32, el47, el79, el121, fl28_0, fl28_1, fl37_0, fl37_1, fl43_0, fl43_1, pl28, pl37, pl43, ti3, ti4, ti5, ti9, ti22, ti25, ti26, ti28, ti32, ti35, ti37, ti43, ti53, ti58, ti116, ti121, un3, un4, un5, un9, un22, un23, un25, un26, un29, un32, un35, un47, un53, un55, un58, un59, un79, un90, un113, un116, S1_fw, U1_fw, I1_fw, Pr.fw, So.fw, pl57, ti57, fl57_0, fl57_1, ti55, ti81, ne_eq, not_false_eq_true, not_true_eq_false, and_self, and_true, true_and, Int.reduceEq, Int.reduceNeg, hz] <;> rfl) ?_
    refine dops_fn rfl (by simp only [fwA, ↓reduceIte, Nat.reduceAdd, Nat.reduceMul, Nat.reduceEqDiff, Nat.reduceLT, Nat.reduceLeDiff, reduceCtorEq] <;> rfl) rfl rfl en25 h25 ?_
    refine dops_run 4 (by simp only [fwA, ↓reduceIte, Nat.reduceAdd, Nat.reduceMul, Nat.reduceEqDiff, Nat.reduceLT, Nat.reduceLeDiff, reduceCtorEq, bitfw, List.length_map, List.getElem?_map, Option.map_some, Int.natCast_nonneg, Int.toNat_natCast, decide_true, decide_false, Bool.and_true, Bool.and_self, Bool.not_true, Bool.not_false, Bool.false_and, Bool.true_and, el22, el23, el25, el26, el29, el32, el47, el79, el121, fl28_0, fl28_1, fl37_0, fl37_1, fl43_0, fl43_1, pl28, pl37, pl43, ti3, ti4, ti5, ti9, ti22, ti25, ti26, ti28, ti32, ti35, ti37, ti43, ti53, ti58, ti116, ti121, un3, un4, un5, un9, un22, un23, un25, un26, un29, un32, un35, un47, un53, un55, un58, un59, un79, un90, un113, un116, S1_fw, U1_fw, I1_fw, Pr.fw, So.fw, pl57, ti57, fl57_0, fl57_1, ti55, ti81, ne_eq, not_false_eq_true, not_true_eq_false, and_self, and_true, true_and, Int.reduceEq, Int.reduceNeg, hz] <;> rfl) ?_
    refine dops_fn rfl (by simp only [fwA, ↓reduceIte, Nat.reduceAdd, Nat.reduceMul, Nat.reduceEqDiff, Nat.reduceLT, Nat.reduceLeDiff, reduceCtorEq] <;> rfl) rfl rfl en21 h21 ?_
    refine dops_run 1 (by simp only [fwA, ↓reduceIte, Nat.reduceAdd, Nat.reduceMul, Nat.reduceEqDiff, Nat.reduceLT, Nat.reduceLeDiff, reduceCtorEq, bitfw, List.length_map, List.getElem?_map, Option.map_some, Int.natCast_nonneg, Int.toNat_natCast, decide_true, decide_false, Bool.and_true, Bool.and_self, Bool.not_true, Bool.not_false, Bool.false_and, Bool.true_and, el22, el23, el25, el26, el29, el32, el47, el79, el121, fl28_0, fl28_1, fl37_0, fl37_1, fl43_0, fl43_1, pl28, pl37, pl43, ti3, ti4, ti5, ti9, ti22, ti25, ti26, ti28, ti32, ti35, ti37, ti43, ti53, ti58, ti116, ti121, un3, un4, un5, un9, un22, un23, un25, un26, un29, un32, un35, un47, un53, un55, un58, un59, un79, un90, un113, un116, S1_fw, U1_fw, I1_fw, Pr.fw, So.fw, pl57, ti57, fl57_0, fl57_1, ti55, ti81, ne_eq, not_false_eq_true, not_true_eq_false, and_self, and_true, true_and, Int.reduceEq, Int.reduceNeg, hz] <;> rfl) ?_
    refine dops_end ?_
    refine awp_ret ?_
    exact gives_end (.inl rfl) _ rfl
  · rw [if_neg h0]
    refine awp_cond (b := false) (by simp [alook, aput, ev, h0]) (awp_skip ?_)
    refine awp_seq ?_
    refine awp_run rfl (by simp only [fwA, ↓reduceIte, Nat.reduceAdd, Nat.reduceMul, Nat.reduceEqDiff, Nat.reduceLT, Nat.reduceLeDiff, reduceCtorEq, bitfw, List.length_map, List.getElem?_map, Option.map_some, Int.natCast_nonneg, Int.toNat_natCast, decide_true, decide_false, Bool.and_true, Bool.and_self, Bool.not_true, Bool.not_false, Bool.false_and, Bool.true_and, el22, el23, el25, el26, el29, el32, el47, el79, el121, fl28_0, fl28_1, fl37_0, fl37_1, fl43_0, fl43_1, pl28, pl37, pl43, ti3, ti4, ti5, ti9, ti22, ti25, ti26, ti28, ti32, ti35, ti37, ti43, ti53, ti58, ti116, ti121, un3, un4, un5, un9, un22, un23, un25, un26, un29, un32, un35, un47, un53, un55, un58, un59, un79, un90, un113, un116, S1_fw, U1_fw, I1_fw, Pr.fw, So.fw, pl57, ti57, fl57_0, fl57_1, ti55, ti81, ne_eq, not_false_eq_true, not_true_eq_false, and_self, and_true, true_and, Int.reduceEq, Int.reduceNeg] <;> rfl) ?_
    refine awp_ret ?_
    exact gives_end (.inl rfl) _ rfl

/- chancel/chancellaw11.lo -/
theorem c20 (Γ : Nat → PV) (hΓ : Tab64 Γ) (ns : List (List UInt8)) (us : List Nat) (hw : W64 us) (b : Nat) (hb : botV ns us = (b : Int)) (h64 : b < 1000000) : Gives Tryd.prog Γ 20 [.agg [.vec (ns.map S1) false, .vec (us.map U1) false]] (.int .i64 (-1 - (b : Int))) := by
  have h19 := c19 Γ hΓ ns us hw
  rw [hb] at h19
  have h21 := c21 Γ (b : Int) ⟨by omega, by omega⟩
  rw [if_neg (by omega)] at h21
  refine fn_of_awp Tryd.func20 rfl (by simp [Tryd.f20]) rfl fun H => ?_
  refine awp_seq ?_
  refine awp_run rfl (by simp only [fwA, ↓reduceIte, Nat.reduceAdd, Nat.reduceMul, Nat.reduceEqDiff, Nat.reduceLT, Nat.reduceLeDiff, reduceCtorEq] <;> rfl) ?_
  refine awp_seq ?_
  refine awp_region rfl ?_
  refine aops_run 1 (by simp only [fwA, ↓reduceIte, Nat.reduceAdd, Nat.reduceMul, Nat.reduceEqDiff, Nat.reduceLT, Nat.reduceLeDiff, reduceCtorEq, bitfw, List.length_map, List.getElem?_map, Option.map_some, Int.natCast_nonneg, Int.toNat_natCast, decide_true, decide_false, Bool.and_true, Bool.and_self, Bool.not_true, Bool.not_false, Bool.false_and, Bool.true_and, el22, el23, el25, el26, el29, el32, el47, el79, el121, fl28_0, fl28_1, fl37_0, fl37_1, fl43_0, fl43_1, pl28, pl37, pl43, ti3, ti4, ti5, ti9, ti22, ti25, ti26, ti28, ti32, ti35, ti37, ti43, ti53, ti58, ti116, ti121, un3, un4, un5, un9, un22, un23, un25, un26, un29, un32, un35, un47, un53, un55, un58, un59, un79, un90, un113, un116, S1_fw, U1_fw, I1_fw, Pr.fw, So.fw, pl57, ti57, fl57_0, fl57_1, ti55, ti81, ne_eq, not_false_eq_true, not_true_eq_false, and_self, and_true, true_and, Int.reduceEq, Int.reduceNeg] <;> rfl) ?_
  refine aops_fn rfl rfl rfl en19 h19 ?_
  refine aops_fn rfl rfl rfl en21 h21 ?_
  refine aops_run 1 (by simp only [fwA, ↓reduceIte, Nat.reduceAdd, Nat.reduceMul, Nat.reduceEqDiff, Nat.reduceLT, Nat.reduceLeDiff, reduceCtorEq, bitfw, List.length_map, List.getElem?_map, Option.map_some, Int.natCast_nonneg, Int.toNat_natCast, decide_true, decide_false, Bool.and_true, Bool.and_self, Bool.not_true, Bool.not_false, Bool.false_and, Bool.true_and, el22, el23, el25, el26, el29, el32, el47, el79, el121, fl28_0, fl28_1, fl37_0, fl37_1, fl43_0, fl43_1, pl28, pl37, pl43, ti3, ti4, ti5, ti9, ti22, ti25, ti26, ti28, ti32, ti35, ti37, ti43, ti53, ti58, ti116, ti121, un3, un4, un5, un9, un22, un23, un25, un26, un29, un32, un35, un47, un53, un55, un58, un59, un79, un90, un113, un116, S1_fw, U1_fw, I1_fw, Pr.fw, So.fw, pl57, ti57, fl57_0, fl57_1, ti55, ti81, ne_eq, not_false_eq_true, not_true_eq_false, and_self, and_true, true_and, Int.reduceEq, Int.reduceNeg] <;> rfl) ?_
  refine aops_end ?_
  refine awp_ret ?_
  exact gives_end (.inl rfl) _ rfl

/- chancel/chancellaw11.hi -/
theorem c16 (Γ : Nat → PV) (hΓ : Tab64 Γ) (ns : List (List UInt8)) (us : List Nat) (hw : W64 us) (b : Nat) (hb : topV ns us = (b : Int)) (h64 : b < 1000000) : Gives Tryd.prog Γ 16 [.agg [.vec (ns.map S1) false, .vec (us.map U1) false]] (.int .i64 (-1 - (b : Int))) := by
  have h18 := c18 Γ hΓ ns us hw
  rw [hb] at h18
  have h21 := c21 Γ (b : Int) ⟨by omega, by omega⟩
  rw [if_neg (by omega)] at h21
  refine fn_of_awp Tryd.func16 rfl (by simp [Tryd.f16]) rfl fun H => ?_
  refine awp_seq ?_
  refine awp_run rfl (by simp only [fwA, ↓reduceIte, Nat.reduceAdd, Nat.reduceMul, Nat.reduceEqDiff, Nat.reduceLT, Nat.reduceLeDiff, reduceCtorEq] <;> rfl) ?_
  refine awp_seq ?_
  refine awp_region rfl ?_
  refine aops_run 1 (by simp only [fwA, ↓reduceIte, Nat.reduceAdd, Nat.reduceMul, Nat.reduceEqDiff, Nat.reduceLT, Nat.reduceLeDiff, reduceCtorEq, bitfw, List.length_map, List.getElem?_map, Option.map_some, Int.natCast_nonneg, Int.toNat_natCast, decide_true, decide_false, Bool.and_true, Bool.and_self, Bool.not_true, Bool.not_false, Bool.false_and, Bool.true_and, el22, el23, el25, el26, el29, el32, el47, el79, el121, fl28_0, fl28_1, fl37_0, fl37_1, fl43_0, fl43_1, pl28, pl37, pl43, ti3, ti4, ti5, ti9, ti22, ti25, ti26, ti28, ti32, ti35, ti37, ti43, ti53, ti58, ti116, ti121, un3, un4, un5, un9, un22, un23, un25, un26, un29, un32, un35, un47, un53, un55, un58, un59, un79, un90, un113, un116, S1_fw, U1_fw, I1_fw, Pr.fw, So.fw, pl57, ti57, fl57_0, fl57_1, ti55, ti81, ne_eq, not_false_eq_true, not_true_eq_false, and_self, and_true, true_and, Int.reduceEq, Int.reduceNeg] <;> rfl) ?_
  refine aops_fn rfl rfl rfl en18 h18 ?_
  refine aops_fn rfl rfl rfl en21 h21 ?_
  refine aops_run 1 (by simp only [fwA, ↓reduceIte, Nat.reduceAdd, Nat.reduceMul, Nat.reduceEqDiff, Nat.reduceLT, Nat.reduceLeDiff, reduceCtorEq, bitfw, List.length_map, List.getElem?_map, Option.map_some, Int.natCast_nonneg, Int.toNat_natCast, decide_true, decide_false, Bool.and_true, Bool.and_self, Bool.not_true, Bool.not_false, Bool.false_and, Bool.true_and, el22, el23, el25, el26, el29, el32, el47, el79, el121, fl28_0, fl28_1, fl37_0, fl37_1, fl43_0, fl43_1, pl28, pl37, pl43, ti3, ti4, ti5, ti9, ti22, ti25, ti26, ti28, ti32, ti35, ti37, ti43, ti53, ti58, ti116, ti121, un3, un4, un5, un9, un22, un23, un25, un26, un29, un32, un35, un47, un53, un55, un58, un59, un79, un90, un113, un116, S1_fw, U1_fw, I1_fw, Pr.fw, So.fw, pl57, ti57, fl57_0, fl57_1, ti55, ti81, ne_eq, not_false_eq_true, not_true_eq_false, and_self, and_true, true_and, Int.reduceEq, Int.reduceNeg] <;> rfl) ?_
  refine aops_end ?_
  refine awp_ret ?_
  exact gives_end (.inl rfl) _ rfl

end Go.Proofs.YtpkpbfemglmejaaDoor

/- The contract of pairs whose points are a lattice's. -/
namespace Go.Proofs.YtpkpbfemglmejaaDoor
set_option linter.unusedVariables false
set_option linter.unusedSimpArgs false
set_option maxRecDepth 100000
open Go.RowKit Fw

def ptP (n : Nat) (p : Pr) : Pr := ⟨ptV n p.a, ptV n p.b⟩
/-- The first thirty pairs, their points of so many. -/
def ptsV (n : Nat) (c : List Pr) : List Pr := (c.take 30).map (ptP n)
set_option maxHeartbeats 4000000 in
/- chancel/chancellaw11.points -/
theorem c10 (Γ : Nat → PV) (ns : List (List UInt8)) (us : List Nat) (hn : 0 < ns.length) (c : List Pr) (ho : OkP c) : Gives Tryd.prog Γ 10 [.agg [.vec (ns.map S1) false, .vec (us.map U1) false], .vec (c.map Pr.enc) false] (.vec ((ptsV ns.length c).map Pr.enc) false) := by
  refine fn_of_awp Tryd.func10 rfl (by simp [Tryd.f10]) rfl fun H => ?_
  refine awp_seq ?_
  refine awp_run rfl (by simp only [fwA, ↓reduceIte, Nat.reduceAdd, Nat.reduceMul, Nat.reduceEqDiff, Nat.reduceLT, Nat.reduceLeDiff, reduceCtorEq] <;> rfl) ?_
  refine awp_seq ?_
  refine awp_run rfl (by simp only [fwA, ↓reduceIte, Nat.reduceAdd, Nat.reduceMul, Nat.reduceEqDiff, Nat.reduceLT, Nat.reduceLeDiff, reduceCtorEq] <;> rfl) ?_
  refine awp_told (told_adopt 5 2 (by decide) (by simp [alook])) ?_
  refine awp_heap (H' := H ++ [.box [.vec (ns.map S1) false, .vec (us.map U1) false], .row 2 ((((c.take 0).map (ptP ns.length)).map Pr.enc).flatten)]) (by simp) ?_
  refine awp_seq ?_
  refine awp_seq ?_
  refine awp_run rfl (by simp only [fwA, ↓reduceIte, Nat.reduceAdd, Nat.reduceMul, Nat.reduceEqDiff, Nat.reduceLT, Nat.reduceLeDiff, reduceCtorEq] <;> rfl) ?_
  refine awp_block ?_
  refine awp_for [1, 2, 5, 6] (fun i : Nat => [.vec (c.map Pr.enc) false, .ptr H.length 0, .row (H.length + 1) 0 i 2, .int .i64 (i : Int)]) (fun i => H ++ [.box [.vec (ns.map S1) false, .vec (us.map U1) false], .row 2 ((((c.take i).map (ptP ns.length)).map Pr.enc).flatten)]) (fun i => c.length - i) (fun i => i ≤ c.length ∧ i ≤ 30) 0 rfl rfl ⟨Nat.zero_le _, Nat.zero_le _⟩ fun i ⟨hil, hi30⟩ => ?_
  refine awp_seq ?_
  refine awp_seq ?_
  by_cases hc : (i : Int) < c.length
  rotate_left
  · refine awp_run rfl (by simp only [fwA, ↓reduceIte, Nat.reduceAdd, Nat.reduceMul, Nat.reduceEqDiff, Nat.reduceLT, Nat.reduceLeDiff, reduceCtorEq, bitfw, List.length_map, List.getElem?_map, Option.map_some, Int.natCast_nonneg, Int.toNat_natCast, decide_true, decide_false, Bool.and_true, Bool.and_self, Bool.not_true, Bool.not_false, Bool.false_and, Bool.true_and, el22, el23, el25, el26, el29, el32, el47, el79, el121, fl28_0, fl28_1, fl37_0, fl37_1, fl43_0, fl43_1, pl28, pl37, pl43, ti3, ti4, ti5, ti9, ti22, ti25, ti26, ti28, ti32, ti35, ti37, ti43, ti53, ti58, ti116, ti121, un3, un4, un5, un9, un22, un23, un25, un26, un29, un32, un35, un47, un53, un55, un58, un59, un79, un90, un113, un116, S1_fw, U1_fw, I1_fw, Pr.fw, So.fw, pl57, ti57, fl57_0, fl57_1, ti55, ti81, ne_eq, not_false_eq_true, not_true_eq_false, and_self, and_true, true_and, Int.reduceEq, Int.reduceNeg, hc] <;> rfl) ?_
    refine awp_cond (b := false) (by simp [alook, aput, ev]) ?_
    refine awp_exit ?_
    have e : c.take i = c.take 30 := by
      rcases Nat.lt_or_ge i 30 with h | h
      · rw [List.take_of_length_le (by omega), List.take_of_length_le (by omega)]
      · rw [show i = 30 by omega]
    have el : i = ((c.take 30).map (ptP ns.length)).length := by rw [List.length_map, ← e, List.length_take]; omega
    rw [e]
    refine awp_seq ?_
    refine awp_run rfl (by simp only [fwA, ↓reduceIte, Nat.reduceAdd, Nat.reduceMul, Nat.reduceEqDiff, Nat.reduceLT, Nat.reduceLeDiff, reduceCtorEq] <;> rfl) ?_
    refine awp_told (told_freezeAt H [.box [.vec (ns.map S1) false, .vec (us.map U1) false], .row 2 ((((c.take 30).map (ptP ns.length)).map Pr.enc).flatten)] 1 rfl (flat_bd (fun t => by simp only [Pr.fw]) _)) ?_
    refine awp_ret ?_
    have hl1 := flat_len Pr.enc_len ((c.take 30).map (ptP ns.length))
    have hch := flat_chunk Pr.enc_len ((c.take 30).map (ptP ns.length))
    rw [← el] at hl1 hch
    refine gives_end (.inl rfl) _ ?_
    simp only [fwA, ↓reduceIte, Nat.reduceAdd, Nat.reduceMul, Nat.reduceEqDiff, Nat.reduceLT, Nat.reduceLeDiff, reduceCtorEq, hl1, hch]
    rfl
  by_cases hc2 : (i : Int) < 30
  rotate_left
  · refine awp_run rfl (by simp only [fwA, ↓reduceIte, Nat.reduceAdd, Nat.reduceMul, Nat.reduceEqDiff, Nat.reduceLT, Nat.reduceLeDiff, reduceCtorEq, bitfw, List.length_map, List.getElem?_map, Option.map_some, Int.natCast_nonneg, Int.toNat_natCast, decide_true, decide_false, Bool.and_true, Bool.and_self, Bool.not_true, Bool.not_false, Bool.false_and, Bool.true_and, el22, el23, el25, el26, el29, el32, el47, el79, el121, fl28_0, fl28_1, fl37_0, fl37_1, fl43_0, fl43_1, pl28, pl37, pl43, ti3, ti4, ti5, ti9, ti22, ti25, ti26, ti28, ti32, ti35, ti37, ti43, ti53, ti58, ti116, ti121, un3, un4, un5, un9, un22, un23, un25, un26, un29, un32, un35, un47, un53, un55, un58, un59, un79, un90, un113, un116, S1_fw, U1_fw, I1_fw, Pr.fw, So.fw, pl57, ti57, fl57_0, fl57_1, ti55, ti81, ne_eq, not_false_eq_true, not_true_eq_false, and_self, and_true, true_and, Int.reduceEq, Int.reduceNeg, hc, hc2] <;> rfl) ?_
    refine awp_cond (b := false) (by simp [alook, aput, ev]) ?_
    refine awp_exit ?_
    have e : c.take i = c.take 30 := by
      rcases Nat.lt_or_ge i 30 with h | h
      · rw [List.take_of_length_le (by omega), List.take_of_length_le (by omega)]
      · rw [show i = 30 by omega]
    have el : i = ((c.take 30).map (ptP ns.length)).length := by rw [List.length_map, ← e, List.length_take]; omega
    rw [e]
    refine awp_seq ?_
    refine awp_run rfl (by simp only [fwA, ↓reduceIte, Nat.reduceAdd, Nat.reduceMul, Nat.reduceEqDiff, Nat.reduceLT, Nat.reduceLeDiff, reduceCtorEq] <;> rfl) ?_
    refine awp_told (told_freezeAt H [.box [.vec (ns.map S1) false, .vec (us.map U1) false], .row 2 ((((c.take 30).map (ptP ns.length)).map Pr.enc).flatten)] 1 rfl (flat_bd (fun t => by simp only [Pr.fw]) _)) ?_
    refine awp_ret ?_
    have hl1 := flat_len Pr.enc_len ((c.take 30).map (ptP ns.length))
    have hch := flat_chunk Pr.enc_len ((c.take 30).map (ptP ns.length))
    rw [← el] at hl1 hch
    refine gives_end (.inl rfl) _ ?_
    simp only [fwA, ↓reduceIte, Nat.reduceAdd, Nat.reduceMul, Nat.reduceEqDiff, Nat.reduceLT, Nat.reduceLeDiff, reduceCtorEq, hl1, hch]
    rfl
  refine awp_run rfl (by simp only [fwA, ↓reduceIte, Nat.reduceAdd, Nat.reduceMul, Nat.reduceEqDiff, Nat.reduceLT, Nat.reduceLeDiff, reduceCtorEq, bitfw, List.length_map, List.getElem?_map, Option.map_some, Int.natCast_nonneg, Int.toNat_natCast, decide_true, decide_false, Bool.and_true, Bool.and_self, Bool.not_true, Bool.not_false, Bool.false_and, Bool.true_and, el22, el23, el25, el26, el29, el32, el47, el79, el121, fl28_0, fl28_1, fl37_0, fl37_1, fl43_0, fl43_1, pl28, pl37, pl43, ti3, ti4, ti5, ti9, ti22, ti25, ti26, ti28, ti32, ti35, ti37, ti43, ti53, ti58, ti116, ti121, un3, un4, un5, un9, un22, un23, un25, un26, un29, un32, un35, un47, un53, un55, un58, un59, un79, un90, un113, un116, S1_fw, U1_fw, I1_fw, Pr.fw, So.fw, pl57, ti57, fl57_0, fl57_1, ti55, ti81, ne_eq, not_false_eq_true, not_true_eq_false, and_self, and_true, true_and, Int.reduceEq, Int.reduceNeg, hc, hc2] <;> rfl) ?_
  refine awp_cond (b := true) (by simp [alook, aput, ev]) ?_
  refine awp_skip ?_
  have hi : i < c.length := by omega
  have hwi : IntKind.i64.wrap ((i : Int) + 1) = ((i + 1 : Nat) : Int) := wrapS i (by omega)
  have gp : c[i]? = some c[i] := List.getElem?_eq_getElem hi
  have hIp := ho c[i] (List.getElem_mem hi)
  generalize c[i] = p at gp hIp
  have hts := take_snoc gp
  have ha := c23 Γ ns us hn p.a hIp.1
  have hb := c23 Γ ns us hn p.b hIp.2
  refine awp_seq ?_
  refine awp_block ?_
  refine awp_drawn [0, 1, 0, 0, 0, 0, 1, 0, 1, 0, 0, 0, 0, 1, 0, 0, 0, 2, 0] [0, 0, 0, 0, 12, 28, 60, 126, 0, 0, 0, 1536, 3584, 7680, 16382, 32766, 65534, 131071, 262143] mixed rfl (by kernel_rfl) ?_
  refine dops_run 7 (by simp only [fwA, ↓reduceIte, Nat.reduceAdd, Nat.reduceMul, Nat.reduceEqDiff, Nat.reduceLT, Nat.reduceLeDiff, reduceCtorEq, bitfw, List.length_map, List.getElem?_map, Option.map_some, Int.natCast_nonneg, Int.toNat_natCast, decide_true, decide_false, Bool.and_true, Bool.and_self, Bool.not_true, Bool.not_false, Bool.false_and, Bool.true_and, el22, el23, el25, el26, el29, el32, el47, el79, el121, fl28_0, fl28_1, fl37_0, fl37_1, fl43_0, fl43_1, pl28, pl37, pl43, ti3, ti4, ti5, ti9, ti22, ti25, ti26, ti28, ti32, ti35, ti37, ti43, ti53, ti58, ti116, ti121, un3, un4, un5, un9, un22, un23, un25, un26, un29, un32, un35, un47, un53, un55, un58, un59, un79, un90, un113, un116, S1_fw, U1_fw, I1_fw, Pr.fw, So.fw, pl57, ti57, fl57_0, fl57_1, ti55, ti81, ne_eq, not_false_eq_true, not_true_eq_false, and_self, and_true, true_and, Int.reduceEq, Int.reduceNeg, gp, Pr.fw] <;> rfl) ?_
  refine dops_fn rfl rfl rfl rfl en23 ha ?_
  refine dops_run 6 (by simp only [fwA, ↓reduceIte, Nat.reduceAdd, Nat.reduceMul, Nat.reduceEqDiff, Nat.reduceLT, Nat.reduceLeDiff, reduceCtorEq, bitfw, List.length_map, List.getElem?_map, Option.map_some, Int.natCast_nonneg, Int.toNat_natCast, decide_true, decide_false, Bool.and_true, Bool.and_self, Bool.not_true, Bool.not_false, Bool.false_and, Bool.true_and, el22, el23, el25, el26, el29, el32, el47, el79, el121, fl28_0, fl28_1, fl37_0, fl37_1, fl43_0, fl43_1, pl28, pl37, pl43, ti3, ti4, ti5, ti9, ti22, ti25, ti26, ti28, ti32, ti35, ti37, ti43, ti53, ti58, ti116, ti121, un3, un4, un5, un9, un22, un23, un25, un26, un29, un32, un35, un47, un53, un55, un58, un59, un79, un90, un113, un116, S1_fw, U1_fw, I1_fw, Pr.fw, So.fw, pl57, ti57, fl57_0, fl57_1, ti55, ti81, ne_eq, not_false_eq_true, not_true_eq_false, and_self, and_true, true_and, Int.reduceEq, Int.reduceNeg, gp, Pr.fw] <;> rfl) ?_
  refine dops_fn rfl rfl rfl rfl en23 hb ?_
  refine dops_run 2 (by simp only [fwA, ↓reduceIte, Nat.reduceAdd, Nat.reduceMul, Nat.reduceEqDiff, Nat.reduceLT, Nat.reduceLeDiff, reduceCtorEq, bitfw, List.length_map, List.getElem?_map, Option.map_some, Int.natCast_nonneg, Int.toNat_natCast, decide_true, decide_false, Bool.and_true, Bool.and_self, Bool.not_true, Bool.not_false, Bool.false_and, Bool.true_and, el22, el23, el25, el26, el29, el32, el47, el79, el121, fl28_0, fl28_1, fl37_0, fl37_1, fl43_0, fl43_1, pl28, pl37, pl43, ti3, ti4, ti5, ti9, ti22, ti25, ti26, ti28, ti32, ti35, ti37, ti43, ti53, ti58, ti116, ti121, un3, un4, un5, un9, un22, un23, un25, un26, un29, un32, un35, un47, un53, un55, un58, un59, un79, un90, un113, un116, S1_fw, U1_fw, I1_fw, Pr.fw, So.fw, pl57, ti57, fl57_0, fl57_1, ti55, ti81, ne_eq, not_false_eq_true, not_true_eq_false, and_self, and_true, true_and, Int.reduceEq, Int.reduceNeg] <;> rfl) ?_
  refine dops_appendR (n := 1) rfl rfl rfl un22 ti43 un22 (.inl ⟨_, rfl⟩) rfl (by simp only [fwA, ↓reduceIte, Nat.reduceAdd, Nat.reduceMul, Nat.reduceEqDiff, Nat.reduceLT, Nat.reduceLeDiff, reduceCtorEq] <;> rfl) (by rw [flat_len Pr.enc_len, List.length_map, List.length_take, Nat.min_eq_left (by omega)]; exact (Nat.zero_add _).symm) rfl (fun es f h e he => by
    simp only [fwA, ↓reduceIte, Nat.reduceAdd, Nat.reduceMul, Nat.reduceEqDiff, Nat.reduceLT, Nat.reduceLeDiff, reduceCtorEq, PV.vec.injEq] at h
    obtain ⟨rfl, rfl⟩ := h
    simp only [List.mem_singleton] at he
    subst he; rfl) rfl (by show (_ + 1) * 16 ≤ _; omega) (by show _ + 1 ≤ _; omega) ?_
  refine dops_run 1 (by simp only [fwA, ↓reduceIte, Nat.reduceAdd, Nat.reduceMul, Nat.reduceEqDiff, Nat.reduceLT, Nat.reduceLeDiff, reduceCtorEq, bitfw, List.length_map, List.getElem?_map, Option.map_some, Int.natCast_nonneg, Int.toNat_natCast, decide_true, decide_false, Bool.and_true, Bool.and_self, Bool.not_true, Bool.not_false, Bool.false_and, Bool.true_and, el22, el23, el25, el26, el29, el32, el47, el79, el121, fl28_0, fl28_1, fl37_0, fl37_1, fl43_0, fl43_1, pl28, pl37, pl43, ti3, ti4, ti5, ti9, ti22, ti25, ti26, ti28, ti32, ti35, ti37, ti43, ti53, ti58, ti116, ti121, un3, un4, un5, un9, un22, un23, un25, un26, un29, un32, un35, un47, un53, un55, un58, un59, un79, un90, un113, un116, S1_fw, U1_fw, I1_fw, Pr.fw, So.fw, pl57, ti57, fl57_0, fl57_1, ti55, ti81, ne_eq, not_false_eq_true, not_true_eq_false, and_self, and_true, true_and, Int.reduceEq, Int.reduceNeg] <;> rfl) ?_
  refine dops_end ?_
  refine awp_run rfl (by simp only [fwA, ↓reduceIte, Nat.reduceAdd, Nat.reduceMul, Nat.reduceEqDiff, Nat.reduceLT, Nat.reduceLeDiff, reduceCtorEq] <;> rfl) ?_
  refine ⟨i + 1, by omega, ⟨by omega, by omega⟩, ?_, ?_, rfl⟩
  · simp only [fwA, ↓reduceIte, Nat.reduceAdd, Nat.reduceMul, Nat.reduceEqDiff, Nat.reduceLT, Nat.reduceLeDiff, reduceCtorEq, List.map_cons, List.map_nil, hwi]
  · rw [hts]
    simp [ptP, Pr.enc]

end Go.Proofs.YtpkpbfemglmejaaDoor

/- The contract of the lattices that are tried. -/
namespace Go.Proofs.YtpkpbfemglmejaaDoor
set_option linter.unusedVariables false
set_option linter.unusedSimpArgs false
set_option maxRecDepth 100000
open Go.RowKit Fw

def latsV : List (List (List UInt8) × List Nat) := [([[80]], [1]), ([[76, 111], [72, 105]], [3, 2]), ([[72, 105], [76, 111]], [1, 3]), ([[76], [65], [66], [72]], [15, 10, 12, 8]), ([[76], [77], [72]], [7, 6, 4]), ([[76], [65], [66], [67], [72]], [31, 18, 20, 24, 16])]
def laE (f : Bool) (x : List (List UInt8) × List Nat) : List PV := [.vec (x.1.map S1) f, .vec (x.2.map U1) f]
theorem laE_le (x : List (List UInt8) × List Nat) : PV.leL (laE true x) (laE false x) := ⟨⟨nofun, PV.leLL_refl _⟩, ⟨nofun, PV.leLL_refl _⟩, trivial⟩
theorem laE_leL : ∀ l : List (List (List UInt8) × List Nat), PV.leLL (l.map (laE true)) (l.map (laE false))
  | [] => trivial
  | x :: l => ⟨laE_le x, laE_leL l⟩
set_option maxHeartbeats 4000000 in
/- chancel/chancellaw11.lats -/
theorem c9 (Γ : Nat → PV) : Gives Tryd.prog Γ 9 [] (.vec (latsV.map (laE false)) false) := by
  refine (show Gives Tryd.prog Γ 9 [] (.vec (latsV.map (laE true)) true) from ?_).res ⟨nofun, laE_leL latsV⟩
  refine fn_of_awp Tryd.func9 rfl (by simp [Tryd.f9]) rfl fun H => ?_
  refine awp_seq ?_
  refine awp_run rfl (by simp only [fwA, ↓reduceIte, Nat.reduceAdd, Nat.reduceMul, Nat.reduceEqDiff, Nat.reduceLT, Nat.reduceLeDiff, reduceCtorEq] <;> rfl) ?_
  refine awp_seq ?_
  refine awp_run rfl (by simp only [fwA, ↓reduceIte, Nat.reduceAdd, Nat.reduceMul, Nat.reduceEqDiff, Nat.reduceLT, Nat.reduceLeDiff, reduceCtorEq, bitfw, List.length_map, List.getElem?_map, Option.map_some, Int.natCast_nonneg, Int.toNat_natCast, decide_true, decide_false, Bool.and_true, Bool.and_self, Bool.not_true, Bool.not_false, Bool.false_and, Bool.true_and, el22, el23, el25, el26, el29, el32, el47, el79, el121, fl28_0, fl28_1, fl37_0, fl37_1, fl43_0, fl43_1, pl28, pl37, pl43, ti3, ti4, ti5, ti9, ti22, ti25, ti26, ti28, ti32, ti35, ti37, ti43, ti53, ti58, ti116, ti121, un3, un4, un5, un9, un22, un23, un25, un26, un29, un32, un35, un47, un53, un55, un58, un59, un79, un90, un113, un116, S1_fw, U1_fw, I1_fw, Pr.fw, So.fw, pl57, ti57, fl57_0, fl57_1, ti55, ti81, ne_eq, not_false_eq_true, not_true_eq_false, and_self, and_true, true_and, Int.reduceEq, Int.reduceNeg] <;> rfl) ?_
  refine awp_ret ?_
  exact gives_end0 (.inl rfl) (by simp [ares, aresL, ares1, Tryd.f9, alook, ev, latsV, laE, S1, U1])

end Go.Proofs.YtpkpbfemglmejaaDoor

/- What the chapter's examples come to. -/
namespace Go.Proofs.YtpkpbfemglmejaaDoor
set_option linter.unusedVariables false
set_option linter.unusedSimpArgs false
set_option maxRecDepth 100000
open Go.RowKit Fw

def diN : List (List UInt8) := [[76], [65], [66], [72]]
def diU : List Nat := [15, 10, 12, 8]
theorem di_right : rightB diN diU = true := by kernel_rfl
theorem di_trans : ∀ x : Fin 4, ∀ a b : Fin 4, lq diU a b = true → lq diU b x = true → lq diU a x = true := by decide +kernel
theorem di_bot : ∀ x : Fin 4, lq diU 0 x = true := by decide +kernel
theorem di_top : ∀ x : Fin 4, lq diU 1 x = true → lq diU 2 x = true → lq diU 3 x = true := by decide +kernel
def exC : List Pr := [⟨-2, 0⟩, ⟨-3, 1⟩, ⟨0, 2⟩, ⟨1, 2⟩]
def exS : Int → Nat := fun v => if v = 0 then 1 else if v = 1 then 2 else if v = 2 then 3 else 0
theorem pts_of {n : Nat} {c : List Pr} (h : (c.all fun p => (decide (0 ≤ p.a) || decide ((-1 - p.a).toNat < n)) && (decide (0 ≤ p.b) || decide ((-1 - p.b).toNat < n))) = true) : PtsOk n c := fun p hp => by
  rw [List.all_eq_true] at h
  have := h p hp
  simp only [Bool.and_eq_true, Bool.or_eq_true, decide_eq_true_eq] at this
  omega
theorem sat_pt {r : Nat → Nat → Bool} {τ : Int → Nat} {a b : Int} (h : satP r τ ⟨a, b⟩) : r (if a < 0 then (-1 - a).toNat else τ a) (if b < 0 then (-1 - b).toNat else τ b) = true := h
theorem ex_vars : gath gV exC = [0, 1, 2] := by
  unfold gath
  exact onceI_is (by decide) (fun x => by simp [outsP, outs, gV, exC]; omega)
theorem ex_least : leastV diN diU exC = ([⟨0, 1⟩, ⟨1, 2⟩, ⟨2, 3⟩], true) := by
  refine leastV_eq (.inr ⟨known_spec.2 ⟨di_right, pts_of (by kernel_rfl)⟩, .inl ⟨exS, ⟨fun v => ?_, ?_⟩, ⟨fun v => ?_, fun τ ht v => ?_⟩, by unfold solL; rw [ex_vars]; kernel_rfl⟩⟩)
  · unfold exS; show _ < 4; split <;> (try split) <;> (try split) <;> decide
  · intro p hp
    simp only [exC, List.mem_cons, List.not_mem_nil, or_false] at hp
    rcases hp with rfl | rfl | rfl | rfl <;> (unfold satP; kernel_rfl)
  · unfold exS; show _ < 4; split <;> (try split) <;> (try split) <;> decide
  · have h0 : lq diU 1 (τ 0) = true := by simpa using sat_pt (ht.2 ⟨-2, 0⟩ (by simp [exC]))
    have h1 : lq diU 2 (τ 1) = true := by simpa using sat_pt (ht.2 ⟨-3, 1⟩ (by simp [exC]))
    have h2 : lq diU (τ 0) (τ 2) = true := by simpa using sat_pt (ht.2 ⟨0, 2⟩ (by simp [exC]))
    have h3 : lq diU (τ 1) (τ 2) = true := by simpa using sat_pt (ht.2 ⟨1, 2⟩ (by simp [exC]))
    have l0 := ht.1 0
    have l1 := ht.1 1
    have l2 := ht.1 2
    have lv := ht.1 v
    have e1 := di_trans ⟨τ 2, l2⟩ 1 ⟨τ 0, l0⟩ h0 h2
    have e2 := di_trans ⟨τ 2, l2⟩ 2 ⟨τ 1, l1⟩ h1 h3
    have e3 := di_top ⟨τ 2, l2⟩ e1 e2
    unfold exS
    split
    · rename_i e; rw [e]; exact h0
    · split
      · rename_i e; rw [e]; exact h1
      · split
        · rename_i e; rw [e]; exact e3
        · exact di_bot ⟨τ v, lv⟩
theorem ex_none : leastV diN diU [⟨-4, 0⟩, ⟨0, -2⟩] = ([], false) := by
  refine leastV_eq (.inr ⟨known_spec.2 ⟨di_right, pts_of (by kernel_rfl)⟩, .inr ⟨fun τ ht => ?_, rfl⟩⟩)
  have h0 : lq diU 3 (τ 0) = true := by simpa using sat_pt (ht.2 ⟨-4, 0⟩ (by simp))
  have h1 : lq diU (τ 0) 1 = true := by simpa using sat_pt (ht.2 ⟨0, -2⟩ (by simp))
  have := di_trans 1 3 ⟨τ 0, ht.1 0⟩ h0 h1
  revert this; decide +kernel
theorem ex_strange : leastV diN diU [⟨-10, 0⟩] = ([], false) := leastV_eq (.inl ⟨by
  cases h : knownB diN diU [⟨-10, 0⟩]
  · rfl
  · have := ((known_spec.1 h).2 ⟨-10, 0⟩ (by simp)).1 (by decide)
    revert this; decide, rfl⟩)
end Go.Proofs.YtpkpbfemglmejaaDoor

/- The chapter's examples. -/
namespace Go.Proofs.YtpkpbfemglmejaaDoor
set_option linter.unusedVariables false
set_option linter.unusedSimpArgs false
set_option maxRecDepth 100000
open Go.RowKit Fw

theorem di_known {c : List Pr} (h : (c.all fun p => (decide (0 ≤ p.a) || decide ((-1 - p.a).toNat < 4)) && (decide (0 ≤ p.b) || decide ((-1 - p.b).toNat < 4))) = true) : knownB diN diU c = true := known_spec.2 ⟨di_right, pts_of h⟩
theorem di_solves {c : List Pr} {s : List So} {b : Bool} (hk : knownB diN diU c = true) (h : ((s.all fun x => ptB diN.length x.p) && c.all fun p => leqB (min diN.length diU.length) diU (valueV diN diU s p.a) (valueV diN diU s p.b)) = b) : solvesB diN diU c s = b := by
  unfold solvesB
  rw [hk, Bool.true_and]; exact h
theorem di_w64 : W64 diU := fun x hx => by simp [diU] at hx; omega
set_option maxHeartbeats 8000000 in
/- chancel/chancellaw11.examples -/
theorem c8 (Γ : Nat → PV) (hΓ : Tab64 Γ) : Gives Tryd.prog Γ 8 [] (.bool true) := by
  have h9 := c9 Γ
  have hget : (latsV.map (laE false))[3]? = some [.vec (diN.map S1) false, .vec (diU.map U1) false] := rfl
  have hlen : latsV.length = 6 := rfl
  have okc : ∀ c : List Pr, (c.all fun p => decide (-100 ≤ p.a) && decide (p.a ≤ 100) && decide (-100 ≤ p.b) && decide (p.b ≤ 100)) = true → OkP c := fun c h p hp => by
    rw [List.all_eq_true] at h
    have := h p hp
    simp only [Bool.and_eq_true, decide_eq_true_eq] at this
    exact ⟨⟨by omega, by omega⟩, ⟨by omega, by omega⟩⟩
  have le1 : ∀ es : List (List PV), PV.leL [.agg [.vec (diN.map S1) false, .vec (diU.map U1) false], .vec es true] [.agg [.vec (diN.map S1) false, .vec (diU.map U1) false], .vec es false] := fun es => ⟨PV.le_refl _, ⟨nofun, PV.leLL_refl _⟩, trivial⟩
  have h11a := c11 Γ hΓ diN diU di_w64 exC (by decide) (okc _ (by kernel_rfl))
  have h11b := c11 Γ hΓ diN diU di_w64 [⟨-4, 0⟩, ⟨0, -2⟩] (by decide) (okc _ (by kernel_rfl))
  have h11c := c11 Γ hΓ diN diU di_w64 [⟨-10, 0⟩] (by decide) (okc _ (by kernel_rfl))
  rw [ex_least] at h11a
  rw [ex_none] at h11b
  rw [ex_strange] at h11c
  have h11a := h11a.args (le1 _)
  have h11b := h11b.args (le1 _)
  have h11c := h11c.args (le1 _)
  have h21a : Gives Tryd.prog Γ 21 [.int .i64 1] (.int .i64 (-2)) := c21 Γ 1 ⟨by decide, by decide⟩
  have h21b : Gives Tryd.prog Γ 21 [.int .i64 2] (.int .i64 (-3)) := c21 Γ 2 ⟨by decide, by decide⟩
  have h21c : Gives Tryd.prog Γ 21 [.int .i64 9] (.int .i64 (-10)) := c21 Γ 9 ⟨by decide, by decide⟩
  have h16 : Gives Tryd.prog Γ 16 [.agg [.vec (diN.map S1) false, .vec (diU.map U1) false]] (.int .i64 (-4)) := c16 Γ hΓ diN diU di_w64 3 (by kernel_rfl) (by decide)
  have h14a := c14 Γ hΓ diN diU di_w64 [⟨0, 1⟩, ⟨1, 2⟩, ⟨2, 3⟩] 2 ⟨by decide, by decide⟩
  have h14b := c14 Γ hΓ diN diU di_w64 [⟨0, 1⟩, ⟨1, 2⟩, ⟨2, 3⟩] 7 ⟨by decide, by decide⟩
  have h14c := c14 Γ hΓ diN diU di_w64 [⟨0, 1⟩, ⟨1, 2⟩, ⟨2, 3⟩] (-2) ⟨by decide, by decide⟩
  have h14d := c14 Γ hΓ diN diU di_w64 [⟨0, 1⟩, ⟨1, 2⟩, ⟨2, 3⟩] (-10) ⟨by decide, by decide⟩
  rw [show valueV diN diU [⟨0, 1⟩, ⟨1, 2⟩, ⟨2, 3⟩] 2 = 3 by kernel_rfl] at h14a
  rw [show valueV diN diU [⟨0, 1⟩, ⟨1, 2⟩, ⟨2, 3⟩] 7 = 0 by kernel_rfl] at h14b
  rw [show valueV diN diU [⟨0, 1⟩, ⟨1, 2⟩, ⟨2, 3⟩] (-2) = 1 by kernel_rfl] at h14c
  rw [show valueV diN diU [⟨0, 1⟩, ⟨1, 2⟩, ⟨2, 3⟩] (-10) = -1 by kernel_rfl] at h14d
  have h12a := c12 Γ hΓ diN diU di_w64 [⟨0, 2⟩] (by decide) (okc _ (by kernel_rfl)) [⟨0, 1⟩, ⟨1, 2⟩, ⟨2, 3⟩]
  have h12b := c12 Γ hΓ diN diU di_w64 [⟨2, 0⟩] (by decide) (okc _ (by kernel_rfl)) [⟨0, 1⟩, ⟨1, 2⟩, ⟨2, 3⟩]
  have h22 := c22 Γ hΓ diN diU di_w64 [] (by decide) (okc _ (by kernel_rfl))
  rw [di_solves (b := true) (di_known (by kernel_rfl)) (by kernel_rfl)] at h12a
  rw [di_solves (b := false) (di_known (by kernel_rfl)) (by kernel_rfl)] at h12b
  rw [di_known (by kernel_rfl)] at h22
  have le2 : ∀ (es : List (List PV)) (x : PV), PV.leL [.agg [.vec (diN.map S1) false, .vec (diU.map U1) false], .vec es true, x] [.agg [.vec (diN.map S1) false, .vec (diU.map U1) false], .vec es false, x] := fun es x => ⟨PV.le_refl _, ⟨nofun, PV.leLL_refl _⟩, PV.le_refl _, trivial⟩
  have h12a := h12a.args (le2 _ _)
  have h12b := h12b.args (le2 _ _)
  have h22 := h22.args (le1 _)
  refine fn_of_awp Tryd.func8 rfl (by simp [Tryd.f8]) rfl fun H => ?_
  refine awp_seq ?_
  refine awp_run rfl (by simp only [fwA, ↓reduceIte, Nat.reduceAdd, Nat.reduceMul, Nat.reduceEqDiff, Nat.reduceLT, Nat.reduceLeDiff, reduceCtorEq] <;> rfl) ?_
  refine awp_seq ?_
  refine awp_region rfl ?_
  refine aops_fn rfl rfl rfl en9 h9 ?_
  refine aops_run 4 (by simp only [fwA, ↓reduceIte, Nat.reduceAdd, Nat.reduceMul, Nat.reduceEqDiff, Nat.reduceLT, Nat.reduceLeDiff, reduceCtorEq, bitfw, List.length_map, List.getElem?_map, Option.map_some, Int.natCast_nonneg, Int.toNat_natCast, decide_true, decide_false, Bool.and_true, Bool.and_self, Bool.not_true, Bool.not_false, Bool.false_and, Bool.true_and, el22, el23, el25, el26, el29, el32, el47, el79, el121, fl28_0, fl28_1, fl37_0, fl37_1, fl43_0, fl43_1, pl28, pl37, pl43, ti3, ti4, ti5, ti9, ti22, ti25, ti26, ti28, ti32, ti35, ti37, ti43, ti53, ti58, ti116, ti121, un3, un4, un5, un9, un22, un23, un25, un26, un29, un32, un35, un47, un53, un55, un58, un59, un79, un90, un113, un116, S1_fw, U1_fw, I1_fw, Pr.fw, So.fw, pl57, ti57, fl57_0, fl57_1, ti55, ti81, ne_eq, not_false_eq_true, not_true_eq_false, and_self, and_true, true_and, Int.reduceEq, Int.reduceNeg, Int.reduceToNat, Int.reduceLE, Int.reduceLT, hget, hlen] <;> rfl) ?_
  refine aops_end ?_
  refine awp_seq ?_
  refine awp_region rfl ?_
  refine aops_fn rfl rfl rfl en21 h21a ?_
  refine aops_run 1 (by simp only [fwA, ↓reduceIte, Nat.reduceAdd, Nat.reduceMul, Nat.reduceEqDiff, Nat.reduceLT, Nat.reduceLeDiff, reduceCtorEq, bitfw, List.length_map, List.getElem?_map, Option.map_some, Int.natCast_nonneg, Int.toNat_natCast, decide_true, decide_false, Bool.and_true, Bool.and_self, Bool.not_true, Bool.not_false, Bool.false_and, Bool.true_and, el22, el23, el25, el26, el29, el32, el47, el79, el121, fl28_0, fl28_1, fl37_0, fl37_1, fl43_0, fl43_1, pl28, pl37, pl43, ti3, ti4, ti5, ti9, ti22, ti25, ti26, ti28, ti32, ti35, ti37, ti43, ti53, ti58, ti116, ti121, un3, un4, un5, un9, un22, un23, un25, un26, un29, un32, un35, un47, un53, un55, un58, un59, un79, un90, un113, un116, S1_fw, U1_fw, I1_fw, Pr.fw, So.fw, pl57, ti57, fl57_0, fl57_1, ti55, ti81, ne_eq, not_false_eq_true, not_true_eq_false, and_self, and_true, true_and, Int.reduceEq, Int.reduceNeg, Int.reduceToNat, Int.reduceLE, Int.reduceLT] <;> rfl) ?_
  refine aops_end ?_
  refine awp_seq ?_
  refine awp_region rfl ?_
  refine aops_fn rfl rfl rfl en21 h21b ?_
  refine aops_run 1 (by simp only [fwA, ↓reduceIte, Nat.reduceAdd, Nat.reduceMul, Nat.reduceEqDiff, Nat.reduceLT, Nat.reduceLeDiff, reduceCtorEq, bitfw, List.length_map, List.getElem?_map, Option.map_some, Int.natCast_nonneg, Int.toNat_natCast, decide_true, decide_false, Bool.and_true, Bool.and_self, Bool.not_true, Bool.not_false, Bool.false_and, Bool.true_and, el22, el23, el25, el26, el29, el32, el47, el79, el121, fl28_0, fl28_1, fl37_0, fl37_1, fl43_0, fl43_1, pl28, pl37, pl43, ti3, ti4, ti5, ti9, ti22, ti25, ti26, ti28, ti32, ti35, ti37, ti43, ti53, ti58, ti116, ti121, un3, un4, un5, un9, un22, un23, un25, un26, un29, un32, un35, un47, un53, un55, un58, un59, un79, un90, un113, un116, S1_fw, U1_fw, I1_fw, Pr.fw, So.fw, pl57, ti57, fl57_0, fl57_1, ti55, ti81, ne_eq, not_false_eq_true, not_true_eq_false, and_self, and_true, true_and, Int.reduceEq, Int.reduceNeg, Int.reduceToNat, Int.reduceLE, Int.reduceLT] <;> rfl) ?_
  refine aops_end ?_
  refine awp_seq ?_
  refine awp_region rfl ?_
  refine aops_run 8 (by simp only [fwA, ↓reduceIte, Nat.reduceAdd, Nat.reduceMul, Nat.reduceEqDiff, Nat.reduceLT, Nat.reduceLeDiff, reduceCtorEq, bitfw, List.length_map, List.getElem?_map, Option.map_some, Int.natCast_nonneg, Int.toNat_natCast, decide_true, decide_false, Bool.and_true, Bool.and_self, Bool.not_true, Bool.not_false, Bool.false_and, Bool.true_and, el22, el23, el25, el26, el29, el32, el47, el79, el121, fl28_0, fl28_1, fl37_0, fl37_1, fl43_0, fl43_1, pl28, pl37, pl43, ti3, ti4, ti5, ti9, ti22, ti25, ti26, ti28, ti32, ti35, ti37, ti43, ti53, ti58, ti116, ti121, un3, un4, un5, un9, un22, un23, un25, un26, un29, un32, un35, un47, un53, un55, un58, un59, un79, un90, un113, un116, S1_fw, U1_fw, I1_fw, Pr.fw, So.fw, pl57, ti57, fl57_0, fl57_1, ti55, ti81, ne_eq, not_false_eq_true, not_true_eq_false, and_self, and_true, true_and, Int.reduceEq, Int.reduceNeg, Int.reduceToNat, Int.reduceLE, Int.reduceLT] <;> rfl) ?_
  refine aops_fn rfl rfl rfl en11 h11a ?_
  refine aops_run 5 (by simp only [fwA, ↓reduceIte, Nat.reduceAdd, Nat.reduceMul, Nat.reduceEqDiff, Nat.reduceLT, Nat.reduceLeDiff, reduceCtorEq, bitfw, List.length_map, List.getElem?_map, Option.map_some, Int.natCast_nonneg, Int.toNat_natCast, decide_true, decide_false, Bool.and_true, Bool.and_self, Bool.not_true, Bool.not_false, Bool.false_and, Bool.true_and, el22, el23, el25, el26, el29, el32, el47, el79, el121, fl28_0, fl28_1, fl37_0, fl37_1, fl43_0, fl43_1, pl28, pl37, pl43, ti3, ti4, ti5, ti9, ti22, ti25, ti26, ti28, ti32, ti35, ti37, ti43, ti53, ti58, ti116, ti121, un3, un4, un5, un9, un22, un23, un25, un26, un29, un32, un35, un47, un53, un55, un58, un59, un79, un90, un113, un116, S1_fw, U1_fw, I1_fw, Pr.fw, So.fw, pl57, ti57, fl57_0, fl57_1, ti55, ti81, ne_eq, not_false_eq_true, not_true_eq_false, and_self, and_true, true_and, Int.reduceEq, Int.reduceNeg, Int.reduceToNat, Int.reduceLE, Int.reduceLT] <;> rfl) ?_
  refine aops_end ?_
  refine awp_seq ?_
  refine awp_drawn [1, 1, 0, 0, 0, 0, 0, 0, 0, 0, 0, 0, 0] [0, 0, 2, 6, 0, 16, 62, 127, 255, 511, 511, 1023, 4095] mixed rfl (by kernel_rfl) ?_
  refine dops_run 2 (by simp only [fwA, ↓reduceIte, Nat.reduceAdd, Nat.reduceMul, Nat.reduceEqDiff, Nat.reduceLT, Nat.reduceLeDiff, reduceCtorEq, bitfw, List.length_map, List.getElem?_map, Option.map_some, Int.natCast_nonneg, Int.toNat_natCast, decide_true, decide_false, Bool.and_true, Bool.and_self, Bool.not_true, Bool.not_false, Bool.false_and, Bool.true_and, el22, el23, el25, el26, el29, el32, el47, el79, el121, fl28_0, fl28_1, fl37_0, fl37_1, fl43_0, fl43_1, pl28, pl37, pl43, ti3, ti4, ti5, ti9, ti22, ti25, ti26, ti28, ti32, ti35, ti37, ti43, ti53, ti58, ti116, ti121, un3, un4, un5, un9, un22, un23, un25, un26, un29, un32, un35, un47, un53, un55, un58, un59, un79, un90, un113, un116, S1_fw, U1_fw, I1_fw, Pr.fw, So.fw, pl57, ti57, fl57_0, fl57_1, ti55, ti81, ne_eq, not_false_eq_true, not_true_eq_false, and_self, and_true, true_and, Int.reduceEq, Int.reduceNeg, Int.reduceToNat, Int.reduceLE, Int.reduceLT] <;> rfl) ?_
  refine dops_fn rfl (by simp only [fwA, ↓reduceIte, Nat.reduceAdd, Nat.reduceMul, Nat.reduceEqDiff, Nat.reduceLT, Nat.reduceLeDiff, reduceCtorEq] <;> rfl) rfl rfl en16 h16 ?_
  refine dops_run 4 (by simp only [fwA, ↓reduceIte, Nat.reduceAdd, Nat.reduceMul, Nat.reduceEqDiff, Nat.reduceLT, Nat.reduceLeDiff, reduceCtorEq, bitfw, List.length_map, List.getElem?_map, Option.map_some, Int.natCast_nonneg, Int.toNat_natCast, decide_true, decide_false, Bool.and_true, Bool.and_self, Bool.not_true, Bool.not_false, Bool.false_and, Bool.true_and, el22, el23, el25, el26, el29, el32, el47, el79, el121, fl28_0, fl28_1, fl37_0, fl37_1, fl43_0, fl43_1, pl28, pl37, pl43, ti3, ti4, ti5, ti9, ti22, ti25, ti26, ti28, ti32, ti35, ti37, ti43, ti53, ti58, ti116, ti121, un3, un4, un5, un9, un22, un23, un25, un26, un29, un32, un35, un47, un53, un55, un58, un59, un79, un90, un113, un116, S1_fw, U1_fw, I1_fw, Pr.fw, So.fw, pl57, ti57, fl57_0, fl57_1, ti55, ti81, ne_eq, not_false_eq_true, not_true_eq_false, and_self, and_true, true_and, Int.reduceEq, Int.reduceNeg, Int.reduceToNat, Int.reduceLE, Int.reduceLT] <;> rfl) ?_
  refine dops_fn rfl (by simp only [fwA, ↓reduceIte, Nat.reduceAdd, Nat.reduceMul, Nat.reduceEqDiff, Nat.reduceLT, Nat.reduceLeDiff, reduceCtorEq] <;> rfl) rfl rfl en11 h11b ?_
  refine dops_run 5 (by simp only [fwA, ↓reduceIte, Nat.reduceAdd, Nat.reduceMul, Nat.reduceEqDiff, Nat.reduceLT, Nat.reduceLeDiff, reduceCtorEq, bitfw, List.length_map, List.getElem?_map, Option.map_some, Int.natCast_nonneg, Int.toNat_natCast, decide_true, decide_false, Bool.and_true, Bool.and_self, Bool.not_true, Bool.not_false, Bool.false_and, Bool.true_and, el22, el23, el25, el26, el29, el32, el47, el79, el121, fl28_0, fl28_1, fl37_0, fl37_1, fl43_0, fl43_1, pl28, pl37, pl43, ti3, ti4, ti5, ti9, ti22, ti25, ti26, ti28, ti32, ti35, ti37, ti43, ti53, ti58, ti116, ti121, un3, un4, un5, un9, un22, un23, un25, un26, un29, un32, un35, un47, un53, un55, un58, un59, un79, un90, un113, un116, S1_fw, U1_fw, I1_fw, Pr.fw, So.fw, pl57, ti57, fl57_0, fl57_1, ti55, ti81, ne_eq, not_false_eq_true, not_true_eq_false, and_self, and_true, true_and, Int.reduceEq, Int.reduceNeg, Int.reduceToNat, Int.reduceLE, Int.reduceLT] <;> rfl) ?_
  refine dops_end ?_
  refine awp_seq ?_
  refine awp_drawn [1, 0, 0, 0, 0, 0, 0, 0, 0, 0] [0, 0, 2, 6, 15, 31, 63, 63, 127, 511] mixed rfl (by kernel_rfl) ?_
  refine dops_run 1 (by simp only [fwA, ↓reduceIte, Nat.reduceAdd, Nat.reduceMul, Nat.reduceEqDiff, Nat.reduceLT, Nat.reduceLeDiff, reduceCtorEq, bitfw, List.length_map, List.getElem?_map, Option.map_some, Int.natCast_nonneg, Int.toNat_natCast, decide_true, decide_false, Bool.and_true, Bool.and_self, Bool.not_true, Bool.not_false, Bool.false_and, Bool.true_and, el22, el23, el25, el26, el29, el32, el47, el79, el121, fl28_0, fl28_1, fl37_0, fl37_1, fl43_0, fl43_1, pl28, pl37, pl43, ti3, ti4, ti5, ti9, ti22, ti25, ti26, ti28, ti32, ti35, ti37, ti43, ti53, ti58, ti116, ti121, un3, un4, un5, un9, un22, un23, un25, un26, un29, un32, un35, un47, un53, un55, un58, un59, un79, un90, un113, un116, S1_fw, U1_fw, I1_fw, Pr.fw, So.fw, pl57, ti57, fl57_0, fl57_1, ti55, ti81, ne_eq, not_false_eq_true, not_true_eq_false, and_self, and_true, true_and, Int.reduceEq, Int.reduceNeg, Int.reduceToNat, Int.reduceLE, Int.reduceLT] <;> rfl) ?_
  refine dops_fn rfl (by simp only [fwA, ↓reduceIte, Nat.reduceAdd, Nat.reduceMul, Nat.reduceEqDiff, Nat.reduceLT, Nat.reduceLeDiff, reduceCtorEq] <;> rfl) rfl rfl en21 h21c ?_
  refine dops_run 2 (by simp only [fwA, ↓reduceIte, Nat.reduceAdd, Nat.reduceMul, Nat.reduceEqDiff, Nat.reduceLT, Nat.reduceLeDiff, reduceCtorEq, bitfw, List.length_map, List.getElem?_map, Option.map_some, Int.natCast_nonneg, Int.toNat_natCast, decide_true, decide_false, Bool.and_true, Bool.and_self, Bool.not_true, Bool.not_false, Bool.false_and, Bool.true_and, el22, el23, el25, el26, el29, el32, el47, el79, el121, fl28_0, fl28_1, fl37_0, fl37_1, fl43_0, fl43_1, pl28, pl37, pl43, ti3, ti4, ti5, ti9, ti22, ti25, ti26, ti28, ti32, ti35, ti37, ti43, ti53, ti58, ti116, ti121, un3, un4, un5, un9, un22, un23, un25, un26, un29, un32, un35, un47, un53, un55, un58, un59, un79, un90, un113, un116, S1_fw, U1_fw, I1_fw, Pr.fw, So.fw, pl57, ti57, fl57_0, fl57_1, ti55, ti81, ne_eq, not_false_eq_true, not_true_eq_false, and_self, and_true, true_and, Int.reduceEq, Int.reduceNeg, Int.reduceToNat, Int.reduceLE, Int.reduceLT] <;> rfl) ?_
  refine dops_fn rfl (by simp only [fwA, ↓reduceIte, Nat.reduceAdd, Nat.reduceMul, Nat.reduceEqDiff, Nat.reduceLT, Nat.reduceLeDiff, reduceCtorEq] <;> rfl) rfl rfl en11 h11c ?_
  refine dops_run 5 (by simp only [fwA, ↓reduceIte, Nat.reduceAdd, Nat.reduceMul, Nat.reduceEqDiff, Nat.reduceLT, Nat.reduceLeDiff, reduceCtorEq, bitfw, List.length_map, List.getElem?_map, Option.map_some, Int.natCast_nonneg, Int.toNat_natCast, decide_true, decide_false, Bool.and_true, Bool.and_self, Bool.not_true, Bool.not_false, Bool.false_and, Bool.true_and, el22, el23, el25, el26, el29, el32, el47, el79, el121, fl28_0, fl28_1, fl37_0, fl37_1, fl43_0, fl43_1, pl28, pl37, pl43, ti3, ti4, ti5, ti9, ti22, ti25, ti26, ti28, ti32, ti35, ti37, ti43, ti53, ti58, ti116, ti121, un3, un4, un5, un9, un22, un23, un25, un26, un29, un32, un35, un47, un53, un55, un58, un59, un79, un90, un113, un116, S1_fw, U1_fw, I1_fw, Pr.fw, So.fw, pl57, ti57, fl57_0, fl57_1, ti55, ti81, ne_eq, not_false_eq_true, not_true_eq_false, and_self, and_true, true_and, Int.reduceEq, Int.reduceNeg, Int.reduceToNat, Int.reduceLE, Int.reduceLT] <;> rfl) ?_
  refine dops_end ?_
  refine awp_seq ?_
  refine awp_seq ?_
  refine awp_run rfl (by simp only [fwA, ↓reduceIte, Nat.reduceAdd, Nat.reduceMul, Nat.reduceEqDiff, Nat.reduceLT, Nat.reduceLeDiff, reduceCtorEq, bitfw, List.length_map, List.getElem?_map, Option.map_some, Int.natCast_nonneg, Int.toNat_natCast, decide_true, decide_false, Bool.and_true, Bool.and_self, Bool.not_true, Bool.not_false, Bool.false_and, Bool.true_and, el22, el23, el25, el26, el29, el32, el47, el79, el121, fl28_0, fl28_1, fl37_0, fl37_1, fl43_0, fl43_1, pl28, pl37, pl43, ti3, ti4, ti5, ti9, ti22, ti25, ti26, ti28, ti32, ti35, ti37, ti43, ti53, ti58, ti116, ti121, un3, un4, un5, un9, un22, un23, un25, un26, un29, un32, un35, un47, un53, un55, un58, un59, un79, un90, un113, un116, S1_fw, U1_fw, I1_fw, Pr.fw, So.fw, pl57, ti57, fl57_0, fl57_1, ti55, ti81, ne_eq, not_false_eq_true, not_true_eq_false, and_self, and_true, true_and, Int.reduceEq, Int.reduceNeg, Int.reduceToNat, Int.reduceLE, Int.reduceLT, leastEnc] <;> rfl) ?_
  refine awp_cond (b := false) (by simp [alook, aput, ev]) (awp_skip ?_)
  refine awp_seq ?_
  refine awp_drawn [0, 0, 0, 0, 0, 0, 0, 0, 0, 0, 0, 0, 0, 1, 0, 0, 0, 0, 0, 0, 1, 0, 0, 0, 0, 0, 0, 1, 0, 0, 0, 1, 0, 0, 0, 0, 0, 1, 0, 0, 0, 0, 0, 1, 0, 0, 0, 0, 0, 0, 1, 0, 0, 0, 0, 0, 0, 1, 0, 0, 0, 0, 0, 0, 1, 0, 0, 0, 0, 0, 0, 0, 1, 0, 0, 0] [0, 1, 3, 7, 15, 31, 63, 127, 255, 511, 1023, 2047, 4095, 8191, 16383, 32767, 65535, 131071, 262143, 524287, 1048575, 2097151, 4194303, 8388607, 16777215, 33554431, 67108863, 134217727, 268435455, 536870911, 1073741823, 2147483647, 2147483647, 8589934591, 17179869183, 34359738367, 68719476735, 137438953471, 137438953471, 549755813887, 1099511627775, 2199023255551, 4398046511103, 8796093022207, 8796093022207, 8796093022207, 70368744177663, 140737488355327, 281474976710655, 562949953421311, 1125899906842623, 1125899906842623, 1125899906842623, 9007199254740991, 18014398509481983, 36028797018963967, 72057594037927935, 144115188075855871, 144115188075855871, 432345564227567615, 144115188075855871, 2305843009213693951, 4611686018427387903, 9223372036854775807, 18446744073709551615, 18446744073709551615, 55340232221128654847, 18446744073709551615, 295147905179352825855, 590295810358705651711, 1180591620717411303423, 2361183241434822606847, 4722366482869645213695, 9444732965739290427391, 18889465931478580854783, 37778931862957161709567] mixed rfl (by kernel_rfl) ?_
  refine dops_run 13 (by simp only [fwA, ↓reduceIte, Nat.reduceAdd, Nat.reduceMul, Nat.reduceEqDiff, Nat.reduceLT, Nat.reduceLeDiff, reduceCtorEq, bitfw, List.length_map, List.getElem?_map, Option.map_some, Int.natCast_nonneg, Int.toNat_natCast, decide_true, decide_false, Bool.and_true, Bool.and_self, Bool.not_true, Bool.not_false, Bool.false_and, Bool.true_and, el22, el23, el25, el26, el29, el32, el47, el79, el121, fl28_0, fl28_1, fl37_0, fl37_1, fl43_0, fl43_1, pl28, pl37, pl43, ti3, ti4, ti5, ti9, ti22, ti25, ti26, ti28, ti32, ti35, ti37, ti43, ti53, ti58, ti116, ti121, un3, un4, un5, un9, un22, un23, un25, un26, un29, un32, un35, un47, un53, un55, un58, un59, un79, un90, un113, un116, S1_fw, U1_fw, I1_fw, Pr.fw, So.fw, pl57, ti57, fl57_0, fl57_1, ti55, ti81, ne_eq, not_false_eq_true, not_true_eq_false, and_self, and_true, true_and, Int.reduceEq, Int.reduceNeg, Int.reduceToNat, Int.reduceLE, Int.reduceLT, List.map_cons, List.map_nil] <;> rfl) ?_
  refine dops_run 13 (by simp only [fwA, ↓reduceIte, Nat.reduceAdd, Nat.reduceMul, Nat.reduceEqDiff, Nat.reduceLT, Nat.reduceLeDiff, reduceCtorEq, bitfw, List.length_map, List.getElem?_map, Option.map_some, Int.natCast_nonneg, Int.toNat_natCast, decide_true, decide_false, Bool.and_true, Bool.and_self, Bool.not_true, Bool.not_false, Bool.false_and, Bool.true_and, el22, el23, el25, el26, el29, el32, el47, el79, el121, fl28_0, fl28_1, fl37_0, fl37_1, fl43_0, fl43_1, pl28, pl37, pl43, ti3, ti4, ti5, ti9, ti22, ti25, ti26, ti28, ti32, ti35, ti37, ti43, ti53, ti58, ti116, ti121, un3, un4, un5, un9, un22, un23, un25, un26, un29, un32, un35, un47, un53, un55, un58, un59, un79, un90, un113, un116, S1_fw, U1_fw, I1_fw, Pr.fw, So.fw, pl57, ti57, fl57_0, fl57_1, ti55, ti81, ne_eq, not_false_eq_true, not_true_eq_false, and_self, and_true, true_and, Int.reduceEq, Int.reduceNeg, Int.reduceToNat, Int.reduceLE, Int.reduceLT, List.map_cons, List.map_nil] <;> rfl) ?_
  refine dops_run 7 (by simp only [fwA, ↓reduceIte, Nat.reduceAdd, Nat.reduceMul, Nat.reduceEqDiff, Nat.reduceLT, Nat.reduceLeDiff, reduceCtorEq, bitfw, List.length_map, List.getElem?_map, Option.map_some, Int.natCast_nonneg, Int.toNat_natCast, decide_true, decide_false, Bool.and_true, Bool.and_self, Bool.not_true, Bool.not_false, Bool.false_and, Bool.true_and, el22, el23, el25, el26, el29, el32, el47, el79, el121, fl28_0, fl28_1, fl37_0, fl37_1, fl43_0, fl43_1, pl28, pl37, pl43, ti3, ti4, ti5, ti9, ti22, ti25, ti26, ti28, ti32, ti35, ti37, ti43, ti53, ti58, ti116, ti121, un3, un4, un5, un9, un22, un23, un25, un26, un29, un32, un35, un47, un53, un55, un58, un59, un79, un90, un113, un116, S1_fw, U1_fw, I1_fw, Pr.fw, So.fw, pl57, ti57, fl57_0, fl57_1, ti55, ti81, ne_eq, not_false_eq_true, not_true_eq_false, and_self, and_true, true_and, Int.reduceEq, Int.reduceNeg, Int.reduceToNat, Int.reduceLE, Int.reduceLT, List.map_cons, List.map_nil] <;> rfl) ?_
  refine dops_fn rfl (by simp only [fwA, ↓reduceIte, Nat.reduceAdd, Nat.reduceMul, Nat.reduceEqDiff, Nat.reduceLT, Nat.reduceLeDiff, reduceCtorEq] <;> rfl) rfl rfl en14 h14a ?_
  refine dops_run 5 (by simp only [fwA, ↓reduceIte, Nat.reduceAdd, Nat.reduceMul, Nat.reduceEqDiff, Nat.reduceLT, Nat.reduceLeDiff, reduceCtorEq, bitfw, List.length_map, List.getElem?_map, Option.map_some, Int.natCast_nonneg, Int.toNat_natCast, decide_true, decide_false, Bool.and_true, Bool.and_self, Bool.not_true, Bool.not_false, Bool.false_and, Bool.true_and, el22, el23, el25, el26, el29, el32, el47, el79, el121, fl28_0, fl28_1, fl37_0, fl37_1, fl43_0, fl43_1, pl28, pl37, pl43, ti3, ti4, ti5, ti9, ti22, ti25, ti26, ti28, ti32, ti35, ti37, ti43, ti53, ti58, ti116, ti121, un3, un4, un5, un9, un22, un23, un25, un26, un29, un32, un35, un47, un53, un55, un58, un59, un79, un90, un113, un116, S1_fw, U1_fw, I1_fw, Pr.fw, So.fw, pl57, ti57, fl57_0, fl57_1, ti55, ti81, ne_eq, not_false_eq_true, not_true_eq_false, and_self, and_true, true_and, Int.reduceEq, Int.reduceNeg, Int.reduceToNat, Int.reduceLE, Int.reduceLT, List.map_cons, List.map_nil] <;> rfl) ?_
  refine dops_fn rfl (by simp only [fwA, ↓reduceIte, Nat.reduceAdd, Nat.reduceMul, Nat.reduceEqDiff, Nat.reduceLT, Nat.reduceLeDiff, reduceCtorEq] <;> rfl) rfl rfl en14 h14b ?_
  refine dops_run 6 (by simp only [fwA, ↓reduceIte, Nat.reduceAdd, Nat.reduceMul, Nat.reduceEqDiff, Nat.reduceLT, Nat.reduceLeDiff, reduceCtorEq, bitfw, List.length_map, List.getElem?_map, Option.map_some, Int.natCast_nonneg, Int.toNat_natCast, decide_true, decide_false, Bool.and_true, Bool.and_self, Bool.not_true, Bool.not_false, Bool.false_and, Bool.true_and, el22, el23, el25, el26, el29, el32, el47, el79, el121, fl28_0, fl28_1, fl37_0, fl37_1, fl43_0, fl43_1, pl28, pl37, pl43, ti3, ti4, ti5, ti9, ti22, ti25, ti26, ti28, ti32, ti35, ti37, ti43, ti53, ti58, ti116, ti121, un3, un4, un5, un9, un22, un23, un25, un26, un29, un32, un35, un47, un53, un55, un58, un59, un79, un90, un113, un116, S1_fw, U1_fw, I1_fw, Pr.fw, So.fw, pl57, ti57, fl57_0, fl57_1, ti55, ti81, ne_eq, not_false_eq_true, not_true_eq_false, and_self, and_true, true_and, Int.reduceEq, Int.reduceNeg, Int.reduceToNat, Int.reduceLE, Int.reduceLT, List.map_cons, List.map_nil] <;> rfl) ?_
  refine dops_fn rfl (by simp only [fwA, ↓reduceIte, Nat.reduceAdd, Nat.reduceMul, Nat.reduceEqDiff, Nat.reduceLT, Nat.reduceLeDiff, reduceCtorEq] <;> rfl) rfl rfl en14 h14c ?_
  refine dops_run 5 (by simp only [fwA, ↓reduceIte, Nat.reduceAdd, Nat.reduceMul, Nat.reduceEqDiff, Nat.reduceLT, Nat.reduceLeDiff, reduceCtorEq, bitfw, List.length_map, List.getElem?_map, Option.map_some, Int.natCast_nonneg, Int.toNat_natCast, decide_true, decide_false, Bool.and_true, Bool.and_self, Bool.not_true, Bool.not_false, Bool.false_and, Bool.true_and, el22, el23, el25, el26, el29, el32, el47, el79, el121, fl28_0, fl28_1, fl37_0, fl37_1, fl43_0, fl43_1, pl28, pl37, pl43, ti3, ti4, ti5, ti9, ti22, ti25, ti26, ti28, ti32, ti35, ti37, ti43, ti53, ti58, ti116, ti121, un3, un4, un5, un9, un22, un23, un25, un26, un29, un32, un35, un47, un53, un55, un58, un59, un79, un90, un113, un116, S1_fw, U1_fw, I1_fw, Pr.fw, So.fw, pl57, ti57, fl57_0, fl57_1, ti55, ti81, ne_eq, not_false_eq_true, not_true_eq_false, and_self, and_true, true_and, Int.reduceEq, Int.reduceNeg, Int.reduceToNat, Int.reduceLE, Int.reduceLT, List.map_cons, List.map_nil] <;> rfl) ?_
  refine dops_fn rfl (by simp only [fwA, ↓reduceIte, Nat.reduceAdd, Nat.reduceMul, Nat.reduceEqDiff, Nat.reduceLT, Nat.reduceLeDiff, reduceCtorEq] <;> rfl) rfl rfl en21 h21c ?_
  refine dops_fn rfl (by simp only [fwA, ↓reduceIte, Nat.reduceAdd, Nat.reduceMul, Nat.reduceEqDiff, Nat.reduceLT, Nat.reduceLeDiff, reduceCtorEq] <;> rfl) rfl rfl en14 h14d ?_
  refine dops_run 7 (by simp only [fwA, ↓reduceIte, Nat.reduceAdd, Nat.reduceMul, Nat.reduceEqDiff, Nat.reduceLT, Nat.reduceLeDiff, reduceCtorEq, bitfw, List.length_map, List.getElem?_map, Option.map_some, Int.natCast_nonneg, Int.toNat_natCast, decide_true, decide_false, Bool.and_true, Bool.and_self, Bool.not_true, Bool.not_false, Bool.false_and, Bool.true_and, el22, el23, el25, el26, el29, el32, el47, el79, el121, fl28_0, fl28_1, fl37_0, fl37_1, fl43_0, fl43_1, pl28, pl37, pl43, ti3, ti4, ti5, ti9, ti22, ti25, ti26, ti28, ti32, ti35, ti37, ti43, ti53, ti58, ti116, ti121, un3, un4, un5, un9, un22, un23, un25, un26, un29, un32, un35, un47, un53, un55, un58, un59, un79, un90, un113, un116, S1_fw, U1_fw, I1_fw, Pr.fw, So.fw, pl57, ti57, fl57_0, fl57_1, ti55, ti81, ne_eq, not_false_eq_true, not_true_eq_false, and_self, and_true, true_and, Int.reduceEq, Int.reduceNeg, Int.reduceToNat, Int.reduceLE, Int.reduceLT, List.map_cons, List.map_nil] <;> rfl) ?_
  refine dops_fn rfl (by simp only [fwA, ↓reduceIte, Nat.reduceAdd, Nat.reduceMul, Nat.reduceEqDiff, Nat.reduceLT, Nat.reduceLeDiff, reduceCtorEq] <;> rfl) rfl rfl en12 h12a ?_
  refine dops_run 6 (by simp only [fwA, ↓reduceIte, Nat.reduceAdd, Nat.reduceMul, Nat.reduceEqDiff, Nat.reduceLT, Nat.reduceLeDiff, reduceCtorEq, bitfw, List.length_map, List.getElem?_map, Option.map_some, Int.natCast_nonneg, Int.toNat_natCast, decide_true, decide_false, Bool.and_true, Bool.and_self, Bool.not_true, Bool.not_false, Bool.false_and, Bool.true_and, el22, el23, el25, el26, el29, el32, el47, el79, el121, fl28_0, fl28_1, fl37_0, fl37_1, fl43_0, fl43_1, pl28, pl37, pl43, ti3, ti4, ti5, ti9, ti22, ti25, ti26, ti28, ti32, ti35, ti37, ti43, ti53, ti58, ti116, ti121, un3, un4, un5, un9, un22, un23, un25, un26, un29, un32, un35, un47, un53, un55, un58, un59, un79, un90, un113, un116, S1_fw, U1_fw, I1_fw, Pr.fw, So.fw, pl57, ti57, fl57_0, fl57_1, ti55, ti81, ne_eq, not_false_eq_true, not_true_eq_false, and_self, and_true, true_and, Int.reduceEq, Int.reduceNeg, Int.reduceToNat, Int.reduceLE, Int.reduceLT, List.map_cons, List.map_nil] <;> rfl) ?_
  refine dops_fn rfl (by simp only [fwA, ↓reduceIte, Nat.reduceAdd, Nat.reduceMul, Nat.reduceEqDiff, Nat.reduceLT, Nat.reduceLeDiff, reduceCtorEq] <;> rfl) rfl rfl en12 h12b ?_
  refine dops_run 4 (by simp only [fwA, ↓reduceIte, Nat.reduceAdd, Nat.reduceMul, Nat.reduceEqDiff, Nat.reduceLT, Nat.reduceLeDiff, reduceCtorEq, bitfw, List.length_map, List.getElem?_map, Option.map_some, Int.natCast_nonneg, Int.toNat_natCast, decide_true, decide_false, Bool.and_true, Bool.and_self, Bool.not_true, Bool.not_false, Bool.false_and, Bool.true_and, el22, el23, el25, el26, el29, el32, el47, el79, el121, fl28_0, fl28_1, fl37_0, fl37_1, fl43_0, fl43_1, pl28, pl37, pl43, ti3, ti4, ti5, ti9, ti22, ti25, ti26, ti28, ti32, ti35, ti37, ti43, ti53, ti58, ti116, ti121, un3, un4, un5, un9, un22, un23, un25, un26, un29, un32, un35, un47, un53, un55, un58, un59, un79, un90, un113, un116, S1_fw, U1_fw, I1_fw, Pr.fw, So.fw, pl57, ti57, fl57_0, fl57_1, ti55, ti81, ne_eq, not_false_eq_true, not_true_eq_false, and_self, and_true, true_and, Int.reduceEq, Int.reduceNeg, Int.reduceToNat, Int.reduceLE, Int.reduceLT, List.map_cons, List.map_nil] <;> rfl) ?_
  refine dops_fn rfl (by simp only [fwA, ↓reduceIte, Nat.reduceAdd, Nat.reduceMul, Nat.reduceEqDiff, Nat.reduceLT, Nat.reduceLeDiff, reduceCtorEq] <;> rfl) rfl rfl en22 h22 ?_
  refine dops_run 2 (by simp only [fwA, ↓reduceIte, Nat.reduceAdd, Nat.reduceMul, Nat.reduceEqDiff, Nat.reduceLT, Nat.reduceLeDiff, reduceCtorEq, bitfw, List.length_map, List.getElem?_map, Option.map_some, Int.natCast_nonneg, Int.toNat_natCast, decide_true, decide_false, Bool.and_true, Bool.and_self, Bool.not_true, Bool.not_false, Bool.false_and, Bool.true_and, el22, el23, el25, el26, el29, el32, el47, el79, el121, fl28_0, fl28_1, fl37_0, fl37_1, fl43_0, fl43_1, pl28, pl37, pl43, ti3, ti4, ti5, ti9, ti22, ti25, ti26, ti28, ti32, ti35, ti37, ti43, ti53, ti58, ti116, ti121, un3, un4, un5, un9, un22, un23, un25, un26, un29, un32, un35, un47, un53, un55, un58, un59, un79, un90, un113, un116, S1_fw, U1_fw, I1_fw, Pr.fw, So.fw, pl57, ti57, fl57_0, fl57_1, ti55, ti81, ne_eq, not_false_eq_true, not_true_eq_false, and_self, and_true, true_and, Int.reduceEq, Int.reduceNeg, Int.reduceToNat, Int.reduceLE, Int.reduceLT, List.map_cons, List.map_nil] <;> rfl) ?_
  refine dops_end ?_
  refine awp_ret ?_
  exact gives_end (.inl rfl) _ rfl

end Go.Proofs.YtpkpbfemglmejaaDoor

/- The laws of chapter 11, plainly. -/
namespace Go.Proofs.YtpkpbfemglmejaaDoor
set_option linter.unusedVariables false
set_option linter.unusedSimpArgs false
set_option maxRecDepth 100000
open Go.RowKit Fw

variable {ns : List (List UInt8)} {us : List Nat} {c : List Pr} {σ : Int → Nat}
theorem gath_nodup (c : List Pr) : (gath gV c).Nodup := onceI_nodup c
theorem find_sol (σ : Int → Nat) (a : Int) : ∀ vs : List Int, (vs.map fun v => (⟨v, (σ v : Int)⟩ : So)).find? (fun x => decide (x.v = a)) = if a ∈ vs then some ⟨a, (σ a : Int)⟩ else none
  | [] => by simp
  | v :: vs => by
    rw [List.map_cons, List.find?_cons]
    by_cases h : v = a
    · subst h; simp
    · simp only [h, decide_false, find_sol σ a vs, List.mem_cons]
      by_cases h2 : a ∈ vs
      · simp [h2]
      · have : a ≠ v := fun e => h e.symm
        simp [h2, this]
/-- What the list of a solution tells. -/
theorem value_sol (hR : rightB ns us = true) (hσ : ∀ v, σ v < us.length) {a : Int} (ha : 0 ≤ a) : valueV ns us (solL c σ) a = if a ∈ gath gV c then (σ a : Int) else botV ns us := by
  obtain ⟨_, r2, _⟩ := right_spec hR
  unfold valueV solL
  rw [if_neg (by omega), find_sol]
  by_cases h : a ∈ gath gV c
  · rw [if_pos h, if_pos h]
    show ptI ns.length (σ a : Int) = _
    unfold ptI
    rw [if_pos (ptB_iff.2 ⟨by omega, by have := hσ a; omega⟩)]
  · rw [if_neg h, if_neg h]
theorem sol_pts (hR : rightB ns us = true) (hσ : ∀ v, σ v < us.length) : ∀ x ∈ solL c σ, ptB ns.length x.p = true := by
  obtain ⟨_, r2, _⟩ := right_spec hR
  intro x hx
  unfold solL at hx
  rw [List.mem_map] at hx
  obtain ⟨v, _, rfl⟩ := hx
  exact ptB_iff.2 ⟨by show (0 : Int) ≤ (σ v : Int); omega, by have := hσ v; show (σ v : Int) < _; omega⟩
theorem sg_sol (hR : rightB ns us = true) (hσ : ∀ v, σ v < us.length) {a : Int} (ha : 0 ≤ a) (h : a ∈ gath gV c) : sg ns us (solL c σ) a = σ a := by
  unfold sg
  rw [if_neg (by omega), value_sol hR hσ ha, if_pos h]; rfl
theorem var_a {p : Pr} (hp : p ∈ c) (h : 0 ≤ p.a) : p.a ∈ gath gV c := (vars_mem c _).2 ⟨h, p, hp, .inl rfl⟩
theorem var_b {p : Pr} (hp : p ∈ c) (h : 0 ≤ p.b) : p.b ∈ gath gV c := (vars_mem c _).2 ⟨h, p, hp, .inr rfl⟩
/-- A solution is one if it is written down. -/
theorem sol_solves (hk : knownB ns us c = true) (hs : SolS us.length (lq us) c σ) : solvesB ns us c (solL c σ) = true := by
  obtain ⟨hR, hp⟩ := known_spec.1 hk
  refine solves_iff.2 ⟨hk, sol_pts hR hs.1, fun v => sg_lt hR (sol_pts hR hs.1) v, fun p hc => ?_⟩
  have := hs.2 p hc
  unfold satP vl at this ⊢
  have e : ∀ a : Int, (0 ≤ a → a ∈ gath gV c) → (if a < 0 then (-1 - a).toNat else sg ns us (solL c σ) a) = if a < 0 then (-1 - a).toNat else σ a := by
    intro a ha
    split
    · rfl
    · exact sg_sol hR hs.1 (by omega) (ha (by omega))
  rw [e _ (var_a hc), e _ (var_b hc)]
  exact this
/-- What a list that solves tells of a variable, is above what is least. -/
theorem least_leq {t : List So} (hk : knownB ns us c = true) (hl : Lows us.length (lq us) c σ) {c' : List Pr} (hsub : ∀ p ∈ c, p ∈ c') (ht : solvesB ns us c' t = true) {v : Int} (h0 : 0 ≤ v) : leqB (min ns.length us.length) us (σ v : Int) (valueV ns us t v) = true := by
  obtain ⟨hR, hp⟩ := known_spec.1 hk
  obtain ⟨_, r2, _⟩ := right_spec hR
  obtain ⟨_, b, s1, s2⟩ := solves_iff.1 ht
  have e := value_vl hR b (a := v) (fun h => absurd h (by omega))
  have ev : vl (sg ns us t) v = sg ns us t v := by unfold vl; rw [if_neg (by omega)]
  rw [e, ev, leq_nat r2 (hl.1 v) (s1 v)]
  exact hl.2 _ ⟨s1, fun p hp => s2 p (hsub p hp)⟩ v
theorem ptV_ok {n : Nat} {a : Int} (hn : 0 < n) (ha : I64 a) : (ptV n a < 0 → (-1 - ptV n a).toNat < n) ∧ ptV n a < 10 ∧ I64 (ptV n a) := by
  unfold ptV
  obtain ⟨h1, h2⟩ := ha
  split
  · have := tmod_bd (a := -1 - a) (by omega) hn
    have h64 : ((-1 - a).tmod (n : Int)) ≤ -1 - a := by
      have := tmod_nat (a := -1 - a) (n := n) (by omega)
      have := Nat.mod_le (-1 - a).toNat n
      omega
    refine ⟨fun _ => by omega, by omega, by omega, by omega⟩
  · have h10 : 0 ≤ a.tmod 10 ∧ a.tmod 10 < 10 := tmod_bd (a := a) (n := 10) (by omega) (by decide)
    refine ⟨fun h => by omega, by omega, by omega, by omega⟩
theorem ptsV_mem {n : Nat} {p : Pr} (h : p ∈ ptsV n c) : ∃ q ∈ c, p = ptP n q := by
  unfold ptsV at h
  rw [List.mem_map] at h
  obtain ⟨q, hq, rfl⟩ := h
  exact ⟨q, List.mem_of_mem_take hq, rfl⟩
theorem ptsV_len (n : Nat) (c : List Pr) : (ptsV n c).length ≤ 30 := by unfold ptsV; rw [List.length_map, List.length_take]; omega
theorem ptsV_ok {n : Nat} (hn : 0 < n) (ho : OkP c) : OkP (ptsV n c) := fun p hp => by
  obtain ⟨q, hq, rfl⟩ := ptsV_mem hp
  exact ⟨(ptV_ok hn (ho q hq).1).2.2, (ptV_ok hn (ho q hq).2).2.2⟩
theorem ptsV_pts {n : Nat} (hn : 0 < n) (ho : OkP c) : PtsOk n (ptsV n c) := fun p hp => by
  obtain ⟨q, hq, rfl⟩ := ptsV_mem hp
  exact ⟨(ptV_ok hn (ho q hq).1).1, (ptV_ok hn (ho q hq).2).1⟩
theorem ptsV_known (hR : rightB ns us = true) (ho : OkP c) : knownB ns us (ptsV ns.length c) = true := by
  obtain ⟨_, r2, _, _, r5⟩ := right_spec hR
  have := r5.pos
  rw [known_spec, r2]
  exact ⟨hR, ptsV_pts (by omega) ho⟩
theorem ptsV_vars (hR : rightB ns us = true) (ho : OkP c) {x : Int} (hx : x ∈ gath gV (ptsV ns.length c)) : 0 ≤ x ∧ x < 10 := by
  obtain ⟨_, r2, _, _, r5⟩ := right_spec hR
  have := r5.pos
  obtain ⟨h0, p, hp, e⟩ := (vars_mem _ _).1 hx
  obtain ⟨q, hq, rfl⟩ := ptsV_mem hp
  rcases e with rfl | rfl
  · exact ⟨h0, (ptV_ok (by omega) (ho q hq).1).2.1⟩
  · exact ⟨h0, (ptV_ok (by omega) (ho q hq).2).2.1⟩
/-- What stands for the variables of a solution that is below another one's. -/
theorem least_two {c c' : List Pr} {x y : List So × Bool} (hk : knownB ns us c = true) (hk' : knownB ns us c' = true) (hx : IsLeast ns us c x) (hy : IsLeast ns us c' y) (hsub : ∀ p ∈ c, p ∈ c') (h : y.2 = true) : x.2 = true ∧ ∀ z ∈ x.1, leqB (min ns.length us.length) us z.p (valueV ns us y.1 z.v) = true := by
  obtain ⟨hR, hp⟩ := known_spec.1 hk
  rcases hy with ⟨e, _⟩ | ⟨_, ⟨τ, t1, t2, rfl⟩ | ⟨_, rfl⟩⟩
  · rw [hk'] at e; cases e
  · rcases hx with ⟨e, _⟩ | ⟨_, ⟨σ, s1, s2, rfl⟩ | ⟨s1, rfl⟩⟩
    · rw [hk] at e; cases e
    · refine ⟨rfl, fun z hz => ?_⟩
      unfold solL at hz
      rw [List.mem_map] at hz
      obtain ⟨v, hv, rfl⟩ := hz
      exact least_leq hk s2 hsub (sol_solves hk' t1) ((vars_mem _ _).1 hv).1
    · exact absurd ⟨t1.1, fun p hp => t1.2 p (hsub p hp)⟩ (s1 τ)
  · cases h
theorem least_off {x : List So × Bool} (hx : IsLeast ns us c x) (h : x.2 = false) : x.1 = [] := by
  rcases hx with ⟨_, rfl⟩ | ⟨_, ⟨σ, s1, s2, rfl⟩ | ⟨s1, rfl⟩⟩
  · rfl
  · cases h
  · rfl
/-- Where there is none, nothing solves. -/
theorem least_none {x : List So × Bool} (hk : knownB ns us c = true) (hx : IsLeast ns us c x) (h : x.2 = false) (t : List So) : solvesB ns us c t = false := by
  rcases hx with ⟨e, _⟩ | ⟨_, ⟨σ, s1, s2, rfl⟩ | ⟨s1, rfl⟩⟩
  · rw [hk] at e; cases e
  · cases h
  · cases e : solvesB ns us c t
    · rfl
    · exact absurd (solves_iff.1 e).2.2 (s1 _)
theorem least_is {x : List So × Bool} (hk : knownB ns us c = true) (hx : IsLeast ns us c x) (h : x.2 = true) : solvesB ns us c x.1 = true := by
  rcases hx with ⟨e, _⟩ | ⟨_, ⟨σ, s1, s2, rfl⟩ | ⟨s1, rfl⟩⟩
  · rw [hk] at e; cases e
  · exact sol_solves hk s1
  · cases h
theorem least_under {x : List So × Bool} (hk : knownB ns us c = true) (hx : IsLeast ns us c x) {t : List So} (ht : solvesB ns us c t = true) : ∀ z ∈ x.1, leqB (min ns.length us.length) us z.p (valueV ns us t z.v) = true := by
  rcases hx with ⟨e, _⟩ | ⟨_, ⟨σ, s1, s2, rfl⟩ | ⟨s1, rfl⟩⟩
  · rw [hk] at e; cases e
  · intro z hz
    unfold solL at hz
    rw [List.mem_map] at hz
    obtain ⟨v, hv, rfl⟩ := hz
    exact least_leq hk s2 (fun _ h => h) ht ((vars_mem _ _).1 hv).1
  · intro z hz; cases hz
theorem gath_congr {c d : List Pr} (h : ∀ p, p ∈ c ↔ p ∈ d) : gath gV c = gath gV d := by
  refine onceI_is (onceI_rise _) fun x => ?_
  have e1 := vars_mem c x
  unfold gath at e1
  rw [onceI_mem] at e1
  rw [e1, vars_mem d]
  constructor
  · rintro ⟨h0, p, hp, e⟩; exact ⟨h0, p, (h p).2 hp, e⟩
  · rintro ⟨h0, p, hp, e⟩; exact ⟨h0, p, (h p).1 hp, e⟩
/-- The same pairs have the same least solution. -/
theorem least_congr {c d : List Pr} (h : ∀ p, p ∈ c ↔ p ∈ d) : leastV ns us c = leastV ns us d := by
  have hsol : ∀ τ, SolS us.length (lq us) c τ ↔ SolS us.length (lq us) d τ := fun τ => ⟨fun ⟨a, b⟩ => ⟨a, fun p hp => b p ((h p).2 hp)⟩, fun ⟨a, b⟩ => ⟨a, fun p hp => b p ((h p).1 hp)⟩⟩
  have hkn : knownB ns us c = knownB ns us d := by
    rw [Bool.eq_iff_iff, known_spec, known_spec]
    exact ⟨fun ⟨a, b⟩ => ⟨a, fun p hp => b p ((h p).2 hp)⟩, fun ⟨a, b⟩ => ⟨a, fun p hp => b p ((h p).1 hp)⟩⟩
  refine leastV_eq ?_
  rcases leastV_is ns us d with ⟨e, e2⟩ | ⟨e, ⟨σ, s1, s2, e2⟩ | ⟨s1, e2⟩⟩
  · exact .inl ⟨hkn.trans e, e2⟩
  · refine .inr ⟨hkn.trans e, .inl ⟨σ, (hsol σ).2 s1, ⟨s2.1, fun τ ht v => s2.2 τ ((hsol τ).1 ht) v⟩, ?_⟩⟩
    rw [e2]; unfold solL; rw [gath_congr h]
  · exact .inr ⟨hkn.trans e, .inr ⟨fun τ ht => s1 τ ((hsol τ).1 ht), e2⟩⟩
/-- The points of what is least: for each variable its own. -/
theorem least_vars {x : List So × Bool} (hk : knownB ns us c = true) (hx : IsLeast ns us c x) (h : x.2 = true) : x.1.map (·.v) = gath gV c ∧ (∀ z ∈ x.1, ptB ns.length z.p = true ∧ valueV ns us x.1 z.v = z.p) ∧ ∀ a : Int, 0 ≤ a → a ∉ gath gV c → valueV ns us x.1 a = botV ns us := by
  obtain ⟨hR, hp⟩ := known_spec.1 hk
  rcases hx with ⟨e, _⟩ | ⟨_, ⟨σ, s1, s2, rfl⟩ | ⟨s1, rfl⟩⟩
  · rw [hk] at e; cases e
  · refine ⟨?_, fun z hz => ⟨sol_pts hR s1.1 z hz, ?_⟩, fun a h0 ha => ?_⟩
    · show (solL c σ).map (·.v) = _
      unfold solL; rw [List.map_map]; exact List.map_id' _
    · have hz' : z ∈ solL c σ := hz
      unfold solL at hz'
      rw [List.mem_map] at hz'
      obtain ⟨v, hv, rfl⟩ := hz'
      show valueV ns us (solL c σ) v = (σ v : Int)
      rw [value_sol hR s1.1 ((vars_mem _ _).1 hv).1, if_pos hv]
    · show valueV ns us (solL c σ) a = _
      rw [value_sol hR s1.1 h0, if_neg ha]
  · cases h
/-- The top for all, where no point but the top stands on the right. -/
theorem top_solves {t : Nat} (hk : knownB ns us c = true) (ht : topV ns us = (t : Int)) (hb : ∀ p ∈ c, p.b < 0 → p.b = -1 - (t : Int)) : (leastV ns us c).2 = true ∧ solvesB ns us c ((gath gV c).map fun v => ⟨v, topV ns us⟩) = true := by
  obtain ⟨hR, hp⟩ := known_spec.1 hk
  obtain ⟨t', e, h1, h2⟩ := top_nat hR
  have ett : t = t' := by rw [ht] at e; omega
  subst ett
  have hs : SolS us.length (lq us) c (fun _ => t) := by
    refine ⟨fun _ => h1, fun p hc => ?_⟩
    have eb : vl (fun _ => t) p.b = t := by
      unfold vl
      split
      · rename_i h; rw [hb p hc h]; omega
      · rfl
    unfold satP
    rw [eb]
    exact h2 _ (vl_lt (fun _ => h1) (hp p hc).1)
  constructor
  · rcases leastV_is ns us c with ⟨e, _⟩ | ⟨_, ⟨σ, s1, s2, e2⟩ | ⟨s1, _⟩⟩
    · rw [hk] at e; cases e
    · rw [e2]
    · exact absurd hs (s1 _)
  · rw [ht]
    exact sol_solves hk hs
end Go.Proofs.YtpkpbfemglmejaaDoor

/- Rows: one element behind, what a call takes of one's own row. -/
namespace Go.Proofs.YtpkpbfemglmejaaDoor
set_option linter.unusedVariables false
set_option linter.unusedSimpArgs false
set_option maxRecDepth 100000
open Go.RowKit Fw
section
variable {P : Program} {Γ : Nat → PV} {ops : Array Oper} {cls : List Nat} {n0 : View}
theorem srcOf_one {H : List Blk} {sz : Nat} {e : List PV} {f : Bool} : srcOf H sz (.vec [e] f) = some e := by simp [srcOf]
theorem os_push {X : Type} {enc : X → List PV} {sz : Nat} (hE : ∀ x, (enc x).length = sz) {o : Oper} {K : PV → List Blk → Prop} {A : List (Nat × PV)} {H : List Blk} {x y : Operand} {t tx e e' : TypeId} {ti : TI} {b k : Nat} {l : List X} {z : X} {f : Bool}
    (ho : o.op = .call { callee := .builtin .append, args := #[x, y], argTypes := #[t, tx] }) (ht : P.underlying t = some (.slice e)) (he : tiOf P e = some ti) (hti : ti.size = sz) (htx : P.underlying tx = some (.slice e')) (hx : ev Γ A x = .row b 0 k sz) (hbk : H[b]? = some (.row sz ((l.map enc).flatten))) (hk' : k = l.length)
    (hy : ev Γ A y = .vec [enc z] f) (hbd : (k + 1) * ti.bytes ≤ 140737488355328) (hbd' : k + 1 ≤ 9223372036854775807)
    (hk : K (.row b 0 (k + 1) sz) (H.set b (.row sz (((l ++ [z]).map enc).flatten)))) : OStep P Γ o A H K := by
  subst hti
  refine os_appendR (n := 1) ho ht he htx (.inl ⟨_, rfl⟩) hx hbk (by rw [flat_len hE, hk', Nat.zero_add]) (by rw [hy]; exact srcOf_one) (fun es f' h e he => by
    rw [hy] at h
    cases h
    rw [List.mem_singleton] at he
    subst he; exact hE z) (by rw [hy]; rfl) hbd hbd' ?_
  rw [List.map_append, List.flatten_append] at hk
  simpa using hk
theorem aops_push {X : Type} {enc : X → List PV} {sz : Nat} (hE : ∀ x, (enc x).length = sz) {o : Oper} {Q : List (Nat × PV) → List Blk → Prop} {rest : List Oper} {A : List (Nat × PV)} {H H' : List Blk} {x y : Operand} {t tx e e' : TypeId} {ti : TI} {b k : Nat} {l : List X} {z : X} {f : Bool}
    (ho : o.op = .call { callee := .builtin .append, args := #[x, y], argTypes := #[t, tx] }) (hg : o.guard = none) (ht : P.underlying t = some (.slice e)) (he : tiOf P e = some ti) (hti : ti.size = sz) (htx : P.underlying tx = some (.slice e')) (hx : ev Γ A x = .row b 0 k sz) (hbk : H[b]? = some (.row sz ((l.map enc).flatten))) (hk' : k = l.length)
    (hy : ev Γ A y = .vec [enc z] f) (hbd : (k + 1) * ti.bytes ≤ 140737488355328) (hbd' : k + 1 ≤ 9223372036854775807) (hH : H.set b (.row sz (((l ++ [z]).map enc).flatten)) = H')
    (hk : AOps P Γ ops Q rest (aput A o.dst (.row b 0 (k + 1) sz)) H') : AOps P Γ ops Q (o :: rest) A H := by
  subst hH
  exact aops_one hg (os_push hE ho ht he hti htx hx hbk hk' hy hbd hbd' hk)
theorem dops_push {X : Type} {enc : X → List PV} {sz : Nat} (hE : ∀ x, (enc x).length = sz) {i : Nat} {o : Oper} {K : List (Nat × PV) → List Blk → Prop} {rest : List (Nat × Oper)} {A : List (Nat × PV)} {H H' : List Blk} {x y : Operand} {t tx e e' : TypeId} {ti : TI} {b k : Nat} {l : List X} {z : X} {f : Bool}
    (ho : o.op = .call { callee := .builtin .append, args := #[x, y], argTypes := #[t, tx] }) (hw : wantA ops A o = some true) (hc : cls.getD i 0 = 2) (ht : P.underlying t = some (.slice e)) (he : tiOf P e = some ti) (hti : ti.size = sz) (htx : P.underlying tx = some (.slice e')) (hx : ev Γ A x = .row b 0 k sz) (hbk : H[b]? = some (.row sz ((l.map enc).flatten))) (hk' : k = l.length)
    (hy : ev Γ A y = .vec [enc z] f) (hbd : (k + 1) * ti.bytes ≤ 140737488355328) (hbd' : k + 1 ≤ 9223372036854775807) (hH : H.set b (.row sz (((l ++ [z]).map enc).flatten)) = H')
    (hk : DOps P Γ ops cls n0 K rest (aput A o.dst (.row b 0 (k + 1) sz)) H') : DOps P Γ ops cls n0 K ((i, o) :: rest) A H := by
  subst hH
  exact dops_turns _ hw hc (fun A' hev => by
    have ex := hev x (call_ops ho (by simp))
    have ey := hev y (call_ops ho (by simp))
    exact os_push hE ho ht he hti htx (ex.trans hx) hbk hk' (ey.trans hy) hbd hbd' ⟨rfl, rfl⟩) hk
/-- A call takes one's own row: it ends. -/
theorem acalls_frz {f : FuncId} {args : List PV} {H : List Blk} {b sz : Nat} {C : List PV} {R : PV → List Blk → Prop} (hb : H[b]? = some (.row sz C)) (hp : PV.plainL C = true) (h : ACalls P Γ f (args.map (frz b sz C)) (H.set b .dead) R) : ACalls P Γ f args H R := by
  intro w0 G w vs hs ha
  obtain ⟨G', h1, h2, h3⟩ := hs.freeze hb hp
  have hlen : (H.set b .dead).length = H.length := List.length_set
  refine (h w0 G' w vs h1 ⟨by rw [List.length_map]; exact ha.1, fun i q v hq hv => ?_⟩).mono fun e w' ⟨v, p, H', G'', k1, k2, k3, k4, k5, k6⟩ => ⟨v, p, H', G'', k1, k2, k3, h2.trans (by rw [hlen] at k4; exact k4) (Nat.le_refl _), by rw [hlen] at k5; exact k5, k6⟩
  rw [List.getElem?_map] at hq
  obtain ⟨q0, hq0, rfl⟩ := Option.map_eq_some_iff.1 hq
  have hr := ha.2 i q0 v hq0 hv
  rw [hlen]
  unfold frz
  split
  · split
    · rename_i hc
      obtain ⟨rfl, rfl, hc⟩ := hc
      exact h3 _ _ _ _ v hr hc
    · exact hr.mono _ h2 (Nat.le_refl _)
  · exact hr.mono _ h2 (Nat.le_refl _)
/-- A call that leaves the blocks that stood there as they are. -/
theorem dops_call3 {i : Nat} {o : Oper} {K : List (Nat × PV) → List Blk → Prop} {rest : List (Nat × Oper)} {A : List (Nat × PV)} {H H' : List Blk} {x : Operand} {args : Array Operand} {ts : Array TypeId} {f : FuncId} {fs cs : List PV} {p : PV}
    (ho : o.op = .call { callee := .value x, args := args, argTypes := ts }) (hw : wantA ops A o = some true) (hc : cls.getD i 0 = 3) (hx : ev Γ A x = .func (.func f) fs cs) (he : Enters P f)
    (h : ACalls P Γ f (fs ++ args.toList.map (ev Γ A) ++ cs) H (fun q H1 => q = p ∧ H1 = H')) (ht : n0.vw H' = n0.vw H) (hk : DOps P Γ ops cls n0 K rest (aput A o.dst p) H') : DOps P Γ ops cls n0 K ((i, o) :: rest) A H :=
  dops_makes p hw hc ht (fun A' hev => by
    have hops : ∀ y, y = x ∨ y ∈ args → ev Γ A' y = ev Γ A y := fun y hy => hev y (by
      rw [ho]
      simp only [Op.operands, Call.operands, Array.mem_append]
      rcases hy with rfl | hy
      · exact .inl (by simp)
      · exact .inr hy)
    refine os_call ho (by rw [hops x (.inl rfl)]; exact hx) he ?_
    rw [List.map_congr_left (l := args.toList) fun y hy => hops y (.inr (by simpa using hy))]
    exact h) hk
theorem dops_append3 {i : Nat} {o : Oper} {K : List (Nat × PV) → List Blk → Prop} {rest : List (Nat × Oper)} {A : List (Nat × PV)} {H : List Blk} {x y : Operand} {t tx e : TypeId} {d : TypeDesc} {ti : TI} {b q k : Nat} {cs xs : List PV} {n : Nat} (ho : o.op = .call { callee := .builtin .append, args := #[x, y], argTypes := #[t, tx] })
    (hw : wantA ops A o = some true) (hc : cls.getD i 0 = 3) (ht : P.underlying t = some (.slice e)) (he : tiOf P e = some ti) (htx : P.underlying tx = some d) (hd : (∃ e, d = .slice e) ∨ d = .string) (hx : ev Γ A x = .row b q k ti.size) (hbk : H[b]? = some (.row ti.size cs)) (hl : cs.length = q + k * ti.size)
    (hy : srcOf H ti.size (ev Γ A y) = some xs) (hyv : ∀ es f, ev Γ A y = .vec es f → ∀ e ∈ es, e.length = ti.size) (hn : alen (ev Γ A y) = some n) (hbd : (k + n) * ti.bytes ≤ 140737488355328) (hbd' : k + n ≤ 9223372036854775807) (hv : n0.vw (H.set b (.row ti.size (cs ++ xs))) = n0.vw H)
    (hk : DOps P Γ ops cls n0 K rest (aput A o.dst (.row b q (k + n) ti.size)) (H.set b (.row ti.size (cs ++ xs)))) : DOps P Γ ops cls n0 K ((i, o) :: rest) A H :=
  dops_makes _ hw hc hv (fun A' hev => by
    have ex := hev x (call_ops ho (by simp))
    have ey := hev y (call_ops ho (by simp))
    exact os_appendR ho ht he htx hd (ex.trans hx) hbk hl (by rw [ey]; exact hy) (by rw [ey]; exact hyv) (by rw [ey]; exact hn) hbd hbd' ⟨rfl, rfl⟩) hk
theorem vw_above {v : View} (H : List Blk) {b : Nat} (B : Blk) (h : v.n ≤ b) : v.vw (H.set b B) = v.vw H := by
  unfold View.vw
  have : (H.set b B).take v.n = H.take v.n := by rw [List.take_set_of_le h]
  rw [this]
end
end Go.Proofs.YtpkpbfemglmejaaDoor
