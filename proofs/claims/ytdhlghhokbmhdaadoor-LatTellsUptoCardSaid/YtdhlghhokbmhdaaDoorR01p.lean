/- The contracts of what is printed. -/
import Derived.Test.YtdhlghhokbmhdaaDoorR01o
namespace Go.Proofs.YtdhlghhokbmhdaaDoor
set_option linter.unusedVariables false
set_option linter.unusedSimpArgs false
set_option maxRecDepth 100000
open Go.RowKit Fw

/-- A number as a text: its letter. -/
theorem os_rune {P : Program} {Γ : Nat → PV} {o : Oper} {A : List (Nat × PV)} {H : List Blk} {K : PV → List Blk → Prop} {src dst : TypeId} {x : Operand} {d : IntKind} {k : IntKind} {n : Int} {c : UInt8} (ho : o.op = .convert src dst x) (hs' : P.underlying src = some (.int d)) (hd : P.underlying dst = some .string) (hx : ev Γ A x = .int k n)
    (he : Utf8.encode n = ⟨#[c]⟩) (hk : K (.str [c]) H) : OStep P Γ o A H K :=
  ostep_pure (by simp [ho]) _ hk fun w0 G w N a hs ha => by
    have h1 := ha.ev hs.glob x
    rw [hx] at h1
    exact ⟨_, by simp [execOp, ho, h1.int_inv, convert, run_under hs', run_under hd, Conv.intToString, he], .str _ [c] (by simp)⟩

theorem join_cons2 (t u : List UInt8) (ts : List (List UInt8)) (sep : List UInt8) : Lib.join (t :: u :: ts) sep = t ++ sep ++ Lib.join (u :: ts) sep := by
  simp [Lib.join, List.intercalate, List.intersperse]
theorem join_snoc (sep t : List UInt8) : ∀ ts : List (List UInt8), Lib.join (ts ++ [t]) sep = Lib.join ts sep ++ (if ts = [] then [] else sep) ++ t
  | [] => by rw [List.nil_append, Lib.join_one, if_pos rfl]; simp [Lib.join, List.intercalate]
  | [u] => by rw [if_neg (by simp), Lib.join_one, List.singleton_append, join_cons2, Lib.join_one]
  | u :: v :: ts => by
    rw [if_neg (by simp)]
    have h := join_snoc sep t (v :: ts)
    rw [if_neg (by simp)] at h
    rw [List.cons_append, List.cons_append, join_cons2, join_cons2]
    rw [List.cons_append] at h
    rw [h]; simp
theorem join_len {sep : List UInt8} {B : Nat} : ∀ ts : List (List UInt8), (∀ t ∈ ts, t.length ≤ B) → (Lib.join ts sep).length ≤ ts.length * (B + sep.length)
  | [], _ => by simp [Lib.join, List.intercalate]
  | [t], h => by rw [Lib.join_one]; have := h t (by simp); simp; omega
  | t :: u :: ts, h => by
    have ih := join_len (sep := sep) (u :: ts) (fun x hx => h x (by simp [hx]))
    have h0 := h t (by simp)
    have e : (Lib.join (t :: u :: ts) sep).length = t.length + sep.length + (Lib.join (u :: ts) sep).length := by
      simp [Lib.join, List.intercalate, List.intersperse]; omega
    rw [e, List.length_cons, Nat.add_mul]
    omega
def bitC (x b : Nat) : UInt8 := if x.testBit b = true then 49 else 48
def bitsT (x n : Nat) : List UInt8 := (List.range n).map (bitC x)
/-- A row as a line. -/
def rowT (n x : Nat) : List UInt8 := bitsT x n ++ [10]
/-- A lattice as a text. -/
def printL (ns : List (List UInt8)) (us : List Nat) : List UInt8 := if rightB ns us = true then Lib.join ns [32] ++ [10] ++ (us.map (rowT us.length)).flatten else []
theorem bitsT_succ (x j : Nat) : bitsT x (j + 1) = bitsT x j ++ [bitC x j] := by unfold bitsT; rw [List.range_succ, List.map_append]; rfl
theorem bitsT_len (x n : Nat) : (bitsT x n).length = n := by simp [bitsT]
theorem rows_len (n : Nat) : ∀ l : List Nat, ((l.map (rowT n)).flatten).length = l.length * (n + 1)
  | [] => by simp
  | x :: l => by
    rw [List.map_cons, List.flatten_cons, List.length_append, rows_len n l, List.length_cons, Nat.add_mul]
    unfold rowT
    rw [List.length_append, bitsT_len, List.length_singleton]; omega
theorem names_len {ns : List (List UInt8)} (h : namedB ns = true) : ∀ t ∈ ns, t.length ≤ 16 := fun t ht => by
  unfold namedB at h
  simp only [Bool.and_eq_true, List.all_eq_true, decide_eq_true_eq, List.mem_range] at h
  obtain ⟨j, hj⟩ := List.getElem?_of_mem ht
  have := (h.2 j (List.getElem?_eq_some_iff.1 hj).1).1
  rw [List.getD_eq_getElem?_getD, hj] at this
  unfold nameB at this
  simp only [Option.getD_some, Bool.and_eq_true, decide_eq_true_eq] at this
  exact this.1.2
theorem bit_val (x j : Nat) : ((x >>> j &&& 1 : Nat) : Int) = if x.testBit j = true then 1 else 0 := by
  have h := bit_eq x j
  have h2 : x >>> j &&& 1 ≤ 1 := Nat.and_le_right
  generalize x >>> j &&& 1 = z at h h2
  cases hb : x.testBit j
  · rw [hb] at h
    have := of_decide_eq_false h
    simp only [Bool.false_eq_true, ↓reduceIte]; omega
  · rw [hb] at h
    have := of_decide_eq_true h
    simp only [↓reduceIte]; omega

set_option maxHeartbeats 2000000 in
/- chancel/lat.Print -/
theorem c31 (Γ : Nat → PV) (hΓ : Tab64 Γ) (ns : List (List UInt8)) (us : List Nat) (hw : W64 us) : Gives Tryd.prog Γ 31 [.agg [.vec (ns.map S1) false, .vec (us.map U1) false]] (.str (printL ns us)) := by
  have h15 := c15 Γ hΓ ns us hw
  refine fn_of_awp Tryd.func31 rfl (by simp [Tryd.f31]) rfl fun H => ?_
  refine awp_seq ?_
  refine awp_run rfl (by simp only [fwA, ↓reduceIte, Nat.reduceAdd, Nat.reduceMul, Nat.reduceEqDiff, Nat.reduceLT, Nat.reduceLeDiff, reduceCtorEq] <;> rfl) ?_
  have hK0 : (H ++ [Blk.box [.vec (ns.map S1) false, .vec (us.map U1) false]])[H.length]? = some (.box [.vec (ns.map S1) false, .vec (us.map U1) false]) := by rw [Fw.get_at0]; rfl
  generalize hK : H ++ [Blk.box [.vec (ns.map S1) false, .vec (us.map U1) false]] = K at hK0 ⊢
  have hend : ∀ (A' : List (Nat × PV)) (v : List UInt8), alook A' 2 = .str v → ((Exit.ret = .ret ∨ Exit.ret = .normal) ∧ ([] : List Nat).Nodup ∧ (∀ b ∈ ([] : List Nat), K[b]? = some .dfr ∧ H.length ≤ b) ∧ ares Tryd.prog Γ A' K Tryd.f31.results.toList = some (.str v) ∧ ∃ L', K = H ++ L') := fun A' v hv => by
    subst hK
    exact gives_end (.inl rfl) _ (by simp [ares, aresL, ares1, Tryd.f31, hv])
  refine awp_seq ?_
  refine awp_seq ?_
  cases hR : rightB ns us
  · rw [hR] at h15
    refine awp_region rfl ?_
    refine aops_run 1 (by simp only [fwA, ↓reduceIte, Nat.reduceAdd, Nat.reduceMul, Nat.reduceEqDiff, Nat.reduceLT, Nat.reduceLeDiff, reduceCtorEq, bitfw, Int.reduceToNat, Int.reduceLE, List.length_map, List.getElem?_map, Option.map_some, Int.natCast_nonneg, Int.toNat_natCast, decide_true, decide_false, Bool.and_true, Bool.and_self, Bool.not_true, Bool.not_false, Bool.false_and, Bool.true_and, un9, un21, un22, un23, un5, un50, ti9, ti22, ti23, ti50, ti25, ti27, pl25, pl27, fl25_0, fl25_1, fl27_0, fl27_1, el22, el23, un3, S1_fw, U1_fw, hK0] <;> rfl) ?_
    refine aops_fn rfl rfl rfl en15 h15 ?_
    refine aops_run 1 (by simp only [fwA, ↓reduceIte, Nat.reduceAdd, Nat.reduceMul, Nat.reduceEqDiff, Nat.reduceLT, Nat.reduceLeDiff, reduceCtorEq, bitfw, Int.reduceToNat, Int.reduceLE, List.length_map, List.getElem?_map, Option.map_some, Int.natCast_nonneg, Int.toNat_natCast, decide_true, decide_false, Bool.and_true, Bool.and_self, Bool.not_true, Bool.not_false, Bool.false_and, Bool.true_and, un9, un21, un22, un23, un5, un50, ti9, ti22, ti23, ti50, ti25, ti27, pl25, pl27, fl25_0, fl25_1, fl27_0, fl27_1, el22, el23, un3, S1_fw, U1_fw, hK0] <;> rfl) ?_
    refine aops_end ?_
    refine awp_cond (b := true) (by simp [alook, aput, ev]) ?_
    refine awp_seq ?_
    refine awp_run rfl (by simp only [fwA, ↓reduceIte, Nat.reduceAdd, Nat.reduceMul, Nat.reduceEqDiff, Nat.reduceLT, Nat.reduceLeDiff, reduceCtorEq] <;> rfl) ?_
    refine awp_ret ?_
    have e : printL ns us = [] := by unfold printL; rw [if_neg (by rw [hR]; simp)]
    rw [e]
    exact hend _ _ rfl
  rw [hR] at h15
  obtain ⟨r1, r2, r3, r4, r5⟩ := right_spec hR
  have hp := r5.pos
  have hne : ns ≠ [] := fun h => by rw [h, List.length_nil] at r2; omega
  have hjl := join_len (sep := [32]) (B := 16) ns (names_len r3)
  have hjl2 : (Lib.join ns [32]).length ≤ 1088 := by simp only [List.length_cons, List.length_nil] at hjl; omega
  have h59 := c59 Γ ns [32] hne (by omega) (by omega)
  have hq0 : (Lib.join ns [32]).length + 1 ≤ 9223372036854775807 := by omega
  have e : printL ns us = Lib.join ns [32] ++ [10] ++ (us.map (rowT us.length)).flatten := by unfold printL; rw [if_pos hR]
  rw [e]
  generalize hB : Lib.join ns [32] ++ [10] = B
  have hBl : B.length ≤ 1089 := by rw [← hB, List.length_append, List.length_singleton]; omega
  refine awp_region rfl ?_
  refine aops_run 1 (by simp only [fwA, ↓reduceIte, Nat.reduceAdd, Nat.reduceMul, Nat.reduceEqDiff, Nat.reduceLT, Nat.reduceLeDiff, reduceCtorEq, bitfw, Int.reduceToNat, Int.reduceLE, List.length_map, List.getElem?_map, Option.map_some, Int.natCast_nonneg, Int.toNat_natCast, decide_true, decide_false, Bool.and_true, Bool.and_self, Bool.not_true, Bool.not_false, Bool.false_and, Bool.true_and, un9, un21, un22, un23, un5, un50, ti9, ti22, ti23, ti50, ti25, ti27, pl25, pl27, fl25_0, fl25_1, fl27_0, fl27_1, el22, el23, un3, S1_fw, U1_fw, hK0] <;> rfl) ?_
  refine aops_fn rfl rfl rfl en15 h15 ?_
  refine aops_run 1 (by simp only [fwA, ↓reduceIte, Nat.reduceAdd, Nat.reduceMul, Nat.reduceEqDiff, Nat.reduceLT, Nat.reduceLeDiff, reduceCtorEq, bitfw, Int.reduceToNat, Int.reduceLE, List.length_map, List.getElem?_map, Option.map_some, Int.natCast_nonneg, Int.toNat_natCast, decide_true, decide_false, Bool.and_true, Bool.and_self, Bool.not_true, Bool.not_false, Bool.false_and, Bool.true_and, un9, un21, un22, un23, un5, un50, ti9, ti22, ti23, ti50, ti25, ti27, pl25, pl27, fl25_0, fl25_1, fl27_0, fl27_1, el22, el23, un3, S1_fw, U1_fw, hK0] <;> rfl) ?_
  refine aops_end ?_
  refine awp_cond (b := false) (by simp [alook, aput, ev]) (awp_skip ?_)
  refine awp_seq ?_
  refine awp_region rfl ?_
  refine aops_run 2 (by simp only [fwA, ↓reduceIte, Nat.reduceAdd, Nat.reduceMul, Nat.reduceEqDiff, Nat.reduceLT, Nat.reduceLeDiff, reduceCtorEq, bitfw, Int.reduceToNat, Int.reduceLE, List.length_map, List.getElem?_map, Option.map_some, Int.natCast_nonneg, Int.toNat_natCast, decide_true, decide_false, Bool.and_true, Bool.and_self, Bool.not_true, Bool.not_false, Bool.false_and, Bool.true_and, un9, un21, un22, un23, un5, un50, ti9, ti22, ti23, ti50, ti25, ti27, pl25, pl27, fl25_0, fl25_1, fl27_0, fl27_1, el22, el23, un3, S1_fw, U1_fw, hK0, List.length_cons, List.length_nil, hq0, hB] <;> rfl) ?_
  refine aops_fn rfl rfl rfl en59 h59 ?_
  refine aops_run 2 (by simp only [fwA, ↓reduceIte, Nat.reduceAdd, Nat.reduceMul, Nat.reduceEqDiff, Nat.reduceLT, Nat.reduceLeDiff, reduceCtorEq, bitfw, Int.reduceToNat, Int.reduceLE, List.length_map, List.getElem?_map, Option.map_some, Int.natCast_nonneg, Int.toNat_natCast, decide_true, decide_false, Bool.and_true, Bool.and_self, Bool.not_true, Bool.not_false, Bool.false_and, Bool.true_and, un9, un21, un22, un23, un5, un50, ti9, ti22, ti23, ti50, ti25, ti27, pl25, pl27, fl25_0, fl25_1, fl27_0, fl27_1, el22, el23, un3, S1_fw, U1_fw, hK0, List.length_cons, List.length_nil, hq0, hB] <;> rfl) ?_
  refine aops_end ?_
  refine awp_seq ?_
  refine awp_seq ?_
  refine awp_run rfl (by simp only [fwA, ↓reduceIte, Nat.reduceAdd, Nat.reduceMul, Nat.reduceEqDiff, Nat.reduceLT, Nat.reduceLeDiff, reduceCtorEq, bitfw, Int.reduceToNat, Int.reduceLE, List.length_map, List.getElem?_map, Option.map_some, Int.natCast_nonneg, Int.toNat_natCast, decide_true, decide_false, Bool.and_true, Bool.and_self, Bool.not_true, Bool.not_false, Bool.false_and, Bool.true_and, un9, un21, un22, un23, un5, un50, ti9, ti22, ti23, ti50, ti25, ti27, pl25, pl27, fl25_0, fl25_1, fl27_0, fl27_1, el22, el23, un3, S1_fw, U1_fw, hK0] <;> rfl) ?_
  refine awp_block ?_
  refine awp_for [1, 3, 15, 16, 17] (fun i : Nat => [.ptr H.length 0, .str (B ++ ((us.take i).map (rowT us.length)).flatten), .vec (us.map U1) false, .int .i64 (us.length : Int), .int .i64 (i : Int)]) (fun _ => K) (fun i => us.length - i) (fun i => i ≤ us.length) 0 (by simp only [fwA, ↓reduceIte, Nat.reduceAdd, Nat.reduceMul, Nat.reduceEqDiff, Nat.reduceLT, Nat.reduceLeDiff, reduceCtorEq, List.map_cons, List.map_nil, List.take_zero, List.flatten_nil, List.append_nil, bitsT, List.range_zero]; rfl) rfl (Nat.zero_le _) fun i hil => ?_
  refine awp_seq ?_
  refine awp_run rfl (by simp only [fwA, ↓reduceIte, Nat.reduceAdd, Nat.reduceMul, Nat.reduceEqDiff, Nat.reduceLT, Nat.reduceLeDiff, reduceCtorEq, bitfw, Int.reduceToNat, Int.reduceLE, List.length_map, List.getElem?_map, Option.map_some, Int.natCast_nonneg, Int.toNat_natCast, decide_true, decide_false, Bool.and_true, Bool.and_self, Bool.not_true, Bool.not_false, Bool.false_and, Bool.true_and, un9, un21, un22, un23, un5, un50, ti9, ti22, ti23, ti50, ti25, ti27, pl25, pl27, fl25_0, fl25_1, fl27_0, fl27_1, el22, el23, un3, S1_fw, U1_fw] <;> rfl) ?_
  refine awp_seq ?_
  refine awp_cond (by simp only [fwA, ↓reduceIte, Nat.reduceAdd, Nat.reduceMul, Nat.reduceEqDiff, Nat.reduceLT, Nat.reduceLeDiff, reduceCtorEq] <;> rfl) ?_
  by_cases hc : (i : Int) < us.length
  rotate_left
  · simp only [hc, decide_false, Bool.false_eq_true, ↓reduceIte]
    refine awp_exit ?_
    have e2 : us.take i = us := List.take_of_length_le (by omega)
    rw [e2]
    refine awp_seq ?_
    refine awp_run rfl (by simp only [fwA, ↓reduceIte, Nat.reduceAdd, Nat.reduceMul, Nat.reduceEqDiff, Nat.reduceLT, Nat.reduceLeDiff, reduceCtorEq] <;> rfl) ?_
    refine awp_ret ?_
    exact hend _ _ rfl
  simp only [hc, decide_true, ↓reduceIte]
  refine awp_skip ?_
  have hill : i < us.length := by omega
  obtain ⟨x, gx, hx, ex⟩ := getW hw hill
  have hwi : IntKind.i64.wrap ((i : Int) + 1) = ((i + 1 : Nat) : Int) := wrapS i (by omega)
  have hst : ((us.take (i + 1)).map (rowT us.length)).flatten = ((us.take i).map (rowT us.length)).flatten ++ rowT us.length x := by rw [List.take_add_one, gx, List.map_append, List.flatten_append]; simp
  have hrl := rows_len us.length (us.take i)
  rw [List.length_take, Nat.min_eq_left hil] at hrl
  have hrl2 : i * (us.length + 1) ≤ 64 * (us.length + 1) := Nat.mul_le_mul_right _ (by omega)
  generalize hT : B ++ ((us.take i).map (rowT us.length)).flatten = T
  have hTl : T.length ≤ 6000 := by rw [← hT, List.length_append, hrl]; omega
  refine awp_seq ?_
  refine awp_block ?_
  refine awp_seq ?_
  refine awp_run rfl (by simp only [fwA, ↓reduceIte, Nat.reduceAdd, Nat.reduceMul, Nat.reduceEqDiff, Nat.reduceLT, Nat.reduceLeDiff, reduceCtorEq, bitfw, Int.reduceToNat, Int.reduceLE, List.length_map, List.getElem?_map, Option.map_some, Int.natCast_nonneg, Int.toNat_natCast, decide_true, decide_false, Bool.and_true, Bool.and_self, Bool.not_true, Bool.not_false, Bool.false_and, Bool.true_and, un9, un21, un22, un23, un5, un50, ti9, ti22, ti23, ti50, ti25, ti27, pl25, pl27, fl25_0, fl25_1, fl27_0, fl27_1, el22, el23, un3, S1_fw, U1_fw, gx] <;> rfl) ?_
  refine awp_seq ?_
  refine awp_seq ?_
  refine awp_run rfl (by simp only [fwA, ↓reduceIte, Nat.reduceAdd, Nat.reduceMul, Nat.reduceEqDiff, Nat.reduceLT, Nat.reduceLeDiff, reduceCtorEq, bitfw, Int.reduceToNat, Int.reduceLE, List.length_map, List.getElem?_map, Option.map_some, Int.natCast_nonneg, Int.toNat_natCast, decide_true, decide_false, Bool.and_true, Bool.and_self, Bool.not_true, Bool.not_false, Bool.false_and, Bool.true_and, un9, un21, un22, un23, un5, un50, ti9, ti22, ti23, ti50, ti25, ti27, pl25, pl27, fl25_0, fl25_1, fl27_0, fl27_1, el22, el23, un3, S1_fw, U1_fw, hK0] <;> rfl) ?_
  refine awp_block ?_
  refine awp_for [1, 3, 5, 15, 16, 17, 23, 24] (fun j : Nat => [.ptr H.length 0, .str (T ++ bitsT x j), .int .u64 (x : Int), .vec (us.map U1) false, .int .i64 (us.length : Int), .int .i64 (i : Int), .int .i64 (us.length : Int), .int .i64 (j : Int)]) (fun _ => K) (fun j => us.length - j) (fun j => j ≤ us.length) 0 (by simp only [fwA, ↓reduceIte, Nat.reduceAdd, Nat.reduceMul, Nat.reduceEqDiff, Nat.reduceLT, Nat.reduceLeDiff, reduceCtorEq, List.map_cons, List.map_nil, List.take_zero, List.flatten_nil, List.append_nil, bitsT, List.range_zero]; rfl) rfl (Nat.zero_le _) fun j hjl => ?_
  refine awp_seq ?_
  refine awp_run rfl (by simp only [fwA, ↓reduceIte, Nat.reduceAdd, Nat.reduceMul, Nat.reduceEqDiff, Nat.reduceLT, Nat.reduceLeDiff, reduceCtorEq, bitfw, Int.reduceToNat, Int.reduceLE, List.length_map, List.getElem?_map, Option.map_some, Int.natCast_nonneg, Int.toNat_natCast, decide_true, decide_false, Bool.and_true, Bool.and_self, Bool.not_true, Bool.not_false, Bool.false_and, Bool.true_and, un9, un21, un22, un23, un5, un50, ti9, ti22, ti23, ti50, ti25, ti27, pl25, pl27, fl25_0, fl25_1, fl27_0, fl27_1, el22, el23, un3, S1_fw, U1_fw] <;> rfl) ?_
  refine awp_seq ?_
  refine awp_cond (by simp only [fwA, ↓reduceIte, Nat.reduceAdd, Nat.reduceMul, Nat.reduceEqDiff, Nat.reduceLT, Nat.reduceLeDiff, reduceCtorEq] <;> rfl) ?_
  by_cases hcj : (j : Int) < us.length
  rotate_left
  · simp only [hcj, decide_false, Bool.false_eq_true, ↓reduceIte]
    refine awp_exit ?_
    have ej : j = us.length := by omega
    have hq : (T ++ bitsT x j).length + 1 ≤ 9223372036854775807 := by rw [List.length_append, bitsT_len]; omega
    refine awp_run rfl (by simp only [fwA, ↓reduceIte, Nat.reduceAdd, Nat.reduceMul, Nat.reduceEqDiff, Nat.reduceLT, Nat.reduceLeDiff, reduceCtorEq, bitfw, Int.reduceToNat, Int.reduceLE, List.length_map, List.getElem?_map, Option.map_some, Int.natCast_nonneg, Int.toNat_natCast, decide_true, decide_false, Bool.and_true, Bool.and_self, Bool.not_true, Bool.not_false, Bool.false_and, Bool.true_and, un9, un21, un22, un23, un5, un50, ti9, ti22, ti23, ti50, ti25, ti27, pl25, pl27, fl25_0, fl25_1, fl27_0, fl27_1, el22, el23, un3, S1_fw, U1_fw, hq, List.length_cons, List.length_nil] <;> rfl) ?_
    refine awp_run rfl (by simp only [fwA, ↓reduceIte, Nat.reduceAdd, Nat.reduceMul, Nat.reduceEqDiff, Nat.reduceLT, Nat.reduceLeDiff, reduceCtorEq] <;> rfl) ?_
    refine ⟨i + 1, by omega, by omega, ?_, rfl, rfl⟩
    rw [hst, ← List.append_assoc, hT]
    simp only [fwA, ↓reduceIte, Nat.reduceAdd, Nat.reduceMul, Nat.reduceEqDiff, Nat.reduceLT, Nat.reduceLeDiff, reduceCtorEq, List.map_cons, List.map_nil, hwi, rowT, ej, List.append_assoc]
  simp only [hcj, decide_true, ↓reduceIte]
  refine awp_skip ?_
  have hwj : IntKind.i64.wrap ((j : Int) + 1) = ((j + 1 : Nat) : Int) := wrapS j (by omega)
  have hs := uShr j hx
  have hxs : x >>> j < 2 ^ 64 := Nat.lt_of_le_of_lt (by rw [Nat.shiftRight_eq_div_pow]; exact Nat.div_le_self _ _) hx
  have h3 := uAnd1 hxs
  have hbv := bit_val x j
  have hq : (T ++ bitsT x j).length + 1 ≤ 9223372036854775807 := by rw [List.length_append, bitsT_len]; omega
  have w48 : IntKind.u64.wrap (48 + 0) = 48 := by decide
  have w49 : IntKind.u64.wrap (48 + 1) = 49 := by decide
  have v48 : IntKind.i32.wrap 48 = 48 := by decide
  have v49 : IntKind.i32.wrap 49 = 49 := by decide
  have hsj : bitsT x (j + 1) = bitsT x j ++ [bitC x j] := bitsT_succ x j
  refine awp_seq ?_
  refine awp_block ?_
  refine awp_seq ?_
  refine awp_run rfl (by simp only [fwA, ↓reduceIte, Nat.reduceAdd, Nat.reduceMul, Nat.reduceEqDiff, Nat.reduceLT, Nat.reduceLeDiff, reduceCtorEq] <;> rfl) ?_
  cases hb : x.testBit j
  · rw [hb] at hbv
    simp only [Bool.false_eq_true, ↓reduceIte] at hbv
    have hbc : bitC x j = 48 := by unfold bitC; rw [hb]; rfl
    refine awp_region rfl ?_
    refine aops_run 7 (by simp only [fwA, ↓reduceIte, Nat.reduceAdd, Nat.reduceMul, Nat.reduceEqDiff, Nat.reduceLT, Nat.reduceLeDiff, reduceCtorEq, bitfw, Int.reduceToNat, Int.reduceLE, List.length_map, List.getElem?_map, Option.map_some, Int.natCast_nonneg, Int.toNat_natCast, decide_true, decide_false, Bool.and_true, Bool.and_self, Bool.not_true, Bool.not_false, Bool.false_and, Bool.true_and, un9, un21, un22, un23, un5, un50, ti9, ti22, ti23, ti50, ti25, ti27, pl25, pl27, fl25_0, fl25_1, fl27_0, fl27_1, el22, el23, un3, S1_fw, U1_fw, hs, h3, hbv, w48, v48] <;> rfl) ?_
    refine aops_one rfl (os_rune (c := 48) rfl un21 un9 rfl rfl ?_)
    refine aops_run 2 (by simp only [fwA, ↓reduceIte, Nat.reduceAdd, Nat.reduceMul, Nat.reduceEqDiff, Nat.reduceLT, Nat.reduceLeDiff, reduceCtorEq, bitfw, Int.reduceToNat, Int.reduceLE, List.length_map, List.getElem?_map, Option.map_some, Int.natCast_nonneg, Int.toNat_natCast, decide_true, decide_false, Bool.and_true, Bool.and_self, Bool.not_true, Bool.not_false, Bool.false_and, Bool.true_and, un9, un21, un22, un23, un5, un50, ti9, ti22, ti23, ti50, ti25, ti27, pl25, pl27, fl25_0, fl25_1, fl27_0, fl27_1, el22, el23, un3, S1_fw, U1_fw, hq, List.length_cons, List.length_nil] <;> rfl) ?_
    refine aops_end ?_
    refine awp_run rfl (by simp only [fwA, ↓reduceIte, Nat.reduceAdd, Nat.reduceMul, Nat.reduceEqDiff, Nat.reduceLT, Nat.reduceLeDiff, reduceCtorEq] <;> rfl) ?_
    refine ⟨j + 1, by omega, by omega, ?_, rfl, rfl⟩
    rw [hsj, hbc, ← List.append_assoc]
    simp only [fwA, ↓reduceIte, Nat.reduceAdd, Nat.reduceMul, Nat.reduceEqDiff, Nat.reduceLT, Nat.reduceLeDiff, reduceCtorEq, List.map_cons, List.map_nil, hwj]
  · rw [hb] at hbv
    simp only [↓reduceIte] at hbv
    have hbc : bitC x j = 49 := by unfold bitC; rw [hb]; rfl
    refine awp_region rfl ?_
    refine aops_run 7 (by simp only [fwA, ↓reduceIte, Nat.reduceAdd, Nat.reduceMul, Nat.reduceEqDiff, Nat.reduceLT, Nat.reduceLeDiff, reduceCtorEq, bitfw, Int.reduceToNat, Int.reduceLE, List.length_map, List.getElem?_map, Option.map_some, Int.natCast_nonneg, Int.toNat_natCast, decide_true, decide_false, Bool.and_true, Bool.and_self, Bool.not_true, Bool.not_false, Bool.false_and, Bool.true_and, un9, un21, un22, un23, un5, un50, ti9, ti22, ti23, ti50, ti25, ti27, pl25, pl27, fl25_0, fl25_1, fl27_0, fl27_1, el22, el23, un3, S1_fw, U1_fw, hs, h3, hbv, w49, v49] <;> rfl) ?_
    refine aops_one rfl (os_rune (c := 49) rfl un21 un9 rfl rfl ?_)
    refine aops_run 2 (by simp only [fwA, ↓reduceIte, Nat.reduceAdd, Nat.reduceMul, Nat.reduceEqDiff, Nat.reduceLT, Nat.reduceLeDiff, reduceCtorEq, bitfw, Int.reduceToNat, Int.reduceLE, List.length_map, List.getElem?_map, Option.map_some, Int.natCast_nonneg, Int.toNat_natCast, decide_true, decide_false, Bool.and_true, Bool.and_self, Bool.not_true, Bool.not_false, Bool.false_and, Bool.true_and, un9, un21, un22, un23, un5, un50, ti9, ti22, ti23, ti50, ti25, ti27, pl25, pl27, fl25_0, fl25_1, fl27_0, fl27_1, el22, el23, un3, S1_fw, U1_fw, hq, List.length_cons, List.length_nil] <;> rfl) ?_
    refine aops_end ?_
    refine awp_run rfl (by simp only [fwA, ↓reduceIte, Nat.reduceAdd, Nat.reduceMul, Nat.reduceEqDiff, Nat.reduceLT, Nat.reduceLeDiff, reduceCtorEq] <;> rfl) ?_
    refine ⟨j + 1, by omega, by omega, ?_, rfl, rfl⟩
    rw [hsj, hbc, ← List.append_assoc]
    simp only [fwA, ↓reduceIte, Nat.reduceAdd, Nat.reduceMul, Nat.reduceEqDiff, Nat.reduceLT, Nat.reduceLeDiff, reduceCtorEq, List.map_cons, List.map_nil, hwj]

set_option maxHeartbeats 2000000 in
/- chancel/chancelref01.Print -/
theorem c32 (Γ : Nat → PV) (ns : List (List UInt8)) (us : List Nat) (hw : W64 us) : Gives Tryd.prog Γ 32 [.agg [.vec (ns.map S1) false, .vec (us.map U1) false]] (.str (printL ns us)) := by
  have h16 := c16 Γ ns us hw
  have h48 := c48 Γ ns us
  refine fn_of_awp Tryd.func32 rfl (by simp [Tryd.f32]) rfl fun H => ?_
  refine awp_seq ?_
  refine awp_run rfl (by simp only [fwA, ↓reduceIte, Nat.reduceAdd, Nat.reduceMul, Nat.reduceEqDiff, Nat.reduceLT, Nat.reduceLeDiff, reduceCtorEq] <;> rfl) ?_
  have hK0 : (H ++ [Blk.box [.vec (ns.map S1) false, .vec (us.map U1) false]])[H.length]? = some (.box [.vec (ns.map S1) false, .vec (us.map U1) false]) := by rw [Fw.get_at0]; rfl
  generalize hK : H ++ [Blk.box [.vec (ns.map S1) false, .vec (us.map U1) false]] = K at hK0 ⊢
  have hend : ∀ (A' : List (Nat × PV)) (v : List UInt8), alook A' 2 = .str v → ((Exit.ret = .ret ∨ Exit.ret = .normal) ∧ ([] : List Nat).Nodup ∧ (∀ b ∈ ([] : List Nat), K[b]? = some .dfr ∧ H.length ≤ b) ∧ ares Tryd.prog Γ A' K Tryd.f32.results.toList = some (.str v) ∧ ∃ L', K = H ++ L') := fun A' v hv => by
    subst hK
    exact gives_end (.inl rfl) _ (by simp [ares, aresL, ares1, Tryd.f32, hv])
  refine awp_seq ?_
  refine awp_seq ?_
  cases hR : rightB ns us
  · rw [hR] at h16
    refine awp_region rfl ?_
    refine aops_run 1 (by simp only [fwA, ↓reduceIte, Nat.reduceAdd, Nat.reduceMul, Nat.reduceEqDiff, Nat.reduceLT, Nat.reduceLeDiff, reduceCtorEq, bitfw, Int.reduceToNat, Int.reduceLE, List.length_map, List.getElem?_map, Option.map_some, Int.natCast_nonneg, Int.toNat_natCast, decide_true, decide_false, Bool.and_true, Bool.and_self, Bool.not_true, Bool.not_false, Bool.false_and, Bool.true_and, un9, un21, un22, un23, un5, un50, ti9, ti22, ti23, ti50, ti25, ti27, pl25, pl27, fl25_0, fl25_1, fl27_0, fl27_1, el22, el23, un3, S1_fw, U1_fw, hK0] <;> rfl) ?_
    refine aops_fn rfl rfl rfl en16 h16 ?_
    refine aops_run 1 (by simp only [fwA, ↓reduceIte, Nat.reduceAdd, Nat.reduceMul, Nat.reduceEqDiff, Nat.reduceLT, Nat.reduceLeDiff, reduceCtorEq, bitfw, Int.reduceToNat, Int.reduceLE, List.length_map, List.getElem?_map, Option.map_some, Int.natCast_nonneg, Int.toNat_natCast, decide_true, decide_false, Bool.and_true, Bool.and_self, Bool.not_true, Bool.not_false, Bool.false_and, Bool.true_and, un9, un21, un22, un23, un5, un50, ti9, ti22, ti23, ti50, ti25, ti27, pl25, pl27, fl25_0, fl25_1, fl27_0, fl27_1, el22, el23, un3, S1_fw, U1_fw, hK0] <;> rfl) ?_
    refine aops_end ?_
    refine awp_cond (b := true) (by simp [alook, aput, ev]) ?_
    refine awp_seq ?_
    refine awp_run rfl (by simp only [fwA, ↓reduceIte, Nat.reduceAdd, Nat.reduceMul, Nat.reduceEqDiff, Nat.reduceLT, Nat.reduceLeDiff, reduceCtorEq] <;> rfl) ?_
    refine awp_ret ?_
    have e : printL ns us = [] := by unfold printL; rw [if_neg (by rw [hR]; simp)]
    rw [e]
    exact hend _ _ rfl
  rw [hR] at h16
  obtain ⟨r1, r2, r3, r4, r5⟩ := right_spec hR
  have hp := r5.pos
  have hmin : min ns.length us.length = us.length := by omega
  rw [hmin] at h48
  have hnl := names_len r3
  have e : printL ns us = Lib.join ns [32] ++ [10] ++ (us.map (rowT us.length)).flatten := by unfold printL; rw [if_pos hR]
  rw [e]
  refine awp_region rfl ?_
  refine aops_run 1 (by simp only [fwA, ↓reduceIte, Nat.reduceAdd, Nat.reduceMul, Nat.reduceEqDiff, Nat.reduceLT, Nat.reduceLeDiff, reduceCtorEq, bitfw, Int.reduceToNat, Int.reduceLE, List.length_map, List.getElem?_map, Option.map_some, Int.natCast_nonneg, Int.toNat_natCast, decide_true, decide_false, Bool.and_true, Bool.and_self, Bool.not_true, Bool.not_false, Bool.false_and, Bool.true_and, un9, un21, un22, un23, un5, un50, ti9, ti22, ti23, ti50, ti25, ti27, pl25, pl27, fl25_0, fl25_1, fl27_0, fl27_1, el22, el23, un3, S1_fw, U1_fw, hK0] <;> rfl) ?_
  refine aops_fn rfl rfl rfl en16 h16 ?_
  refine aops_run 1 (by simp only [fwA, ↓reduceIte, Nat.reduceAdd, Nat.reduceMul, Nat.reduceEqDiff, Nat.reduceLT, Nat.reduceLeDiff, reduceCtorEq, bitfw, Int.reduceToNat, Int.reduceLE, List.length_map, List.getElem?_map, Option.map_some, Int.natCast_nonneg, Int.toNat_natCast, decide_true, decide_false, Bool.and_true, Bool.and_self, Bool.not_true, Bool.not_false, Bool.false_and, Bool.true_and, un9, un21, un22, un23, un5, un50, ti9, ti22, ti23, ti50, ti25, ti27, pl25, pl27, fl25_0, fl25_1, fl27_0, fl27_1, el22, el23, un3, S1_fw, U1_fw, hK0] <;> rfl) ?_
  refine aops_end ?_
  refine awp_cond (b := false) (by simp [alook, aput, ev]) (awp_skip ?_)
  refine awp_seq ?_
  refine awp_run rfl (by simp only [fwA, ↓reduceIte, Nat.reduceAdd, Nat.reduceMul, Nat.reduceEqDiff, Nat.reduceLT, Nat.reduceLeDiff, reduceCtorEq] <;> rfl) ?_
  refine awp_seq ?_
  refine awp_seq ?_
  refine awp_run rfl (by simp only [fwA, ↓reduceIte, Nat.reduceAdd, Nat.reduceMul, Nat.reduceEqDiff, Nat.reduceLT, Nat.reduceLeDiff, reduceCtorEq] <;> rfl) ?_
  refine awp_block ?_
  refine awp_for [1, 3, 4] (fun i : Nat => [.ptr H.length 0, .str (Lib.join (ns.take i) [32]), .int .i64 (i : Int)]) (fun _ => K) (fun i => ns.length - i) (fun i => i ≤ ns.length) 0 rfl rfl (Nat.zero_le _) fun i hil => ?_
  refine awp_seq ?_
  refine awp_seq ?_
  refine awp_run rfl (by simp only [fwA, ↓reduceIte, Nat.reduceAdd, Nat.reduceMul, Nat.reduceEqDiff, Nat.reduceLT, Nat.reduceLeDiff, reduceCtorEq, bitfw, Int.reduceToNat, Int.reduceLE, List.length_map, List.getElem?_map, Option.map_some, Int.natCast_nonneg, Int.toNat_natCast, decide_true, decide_false, Bool.and_true, Bool.and_self, Bool.not_true, Bool.not_false, Bool.false_and, Bool.true_and, un9, un21, un22, un23, un5, un50, ti9, ti22, ti23, ti50, ti25, ti27, pl25, pl27, fl25_0, fl25_1, fl27_0, fl27_1, el22, el23, un3, S1_fw, U1_fw, hK0] <;> rfl) ?_
  refine awp_cond (by simp only [fwA, ↓reduceIte, Nat.reduceAdd, Nat.reduceMul, Nat.reduceEqDiff, Nat.reduceLT, Nat.reduceLeDiff, reduceCtorEq] <;> rfl) ?_
  have hjl := join_len (sep := [32]) (B := 16) (ns.take i) (fun t ht => hnl t (List.mem_of_mem_take ht))
  rw [List.length_take, Nat.min_eq_left hil] at hjl
  have hjl2 : (Lib.join (ns.take i) [32]).length ≤ 1088 := by simp only [List.length_cons, List.length_nil] at hjl; omega
  by_cases hc : (i : Int) < ns.length
  · simp only [hc, decide_true, ↓reduceIte]
    refine awp_skip ?_
    have hill : i < ns.length := by omega
    have ga : ns[i]? = some ns[i] := List.getElem?_eq_getElem hill
    have hsl := hnl ns[i] (List.getElem_mem hill)
    have hst : Lib.join (ns.take (i + 1)) [32] = Lib.join (ns.take i) [32] ++ (if ns.take i = [] then [] else [32]) ++ ns[i] := by rw [List.take_add_one, ga]; exact join_snoc _ _ _
    have hne : ns.take i = [] ↔ ¬ 0 < i := by
      rw [List.take_eq_nil_iff]
      constructor
      · rintro (h | h)
        · omega
        · rw [h] at hill; simp at hill
      · intro h; left; omega
    generalize ns[i] = s at ga hsl hst
    have hwi : IntKind.i64.wrap ((i : Int) + 1) = ((i + 1 : Nat) : Int) := wrapS i (by omega)
    generalize hT : Lib.join (ns.take i) [32] = T at hjl2 hst ⊢
    refine awp_seq ?_
    refine awp_block ?_
    refine awp_join [1, 3, 4] (fun Y : List UInt8 => [.ptr H.length 0, .str Y, .int .i64 (i : Int)]) (fun _ => K) (fun Y => Y = T ++ (if ns.take i = [] then [] else [32])) ?_ fun Y hY => ?_
    · refine awp_seq ?_
      by_cases h0 : (0 : Int) < (i : Int)
      · have hd0 : decide ((0 : Int) < (i : Int)) = true := decide_eq_true h0
        have hq : T.length + 1 ≤ 9223372036854775807 := by omega
        refine awp_run rfl (by simp only [fwA, ↓reduceIte, Nat.reduceAdd, Nat.reduceMul, Nat.reduceEqDiff, Nat.reduceLT, Nat.reduceLeDiff, reduceCtorEq, bitfw, Int.reduceToNat, Int.reduceLE, List.length_map, List.getElem?_map, Option.map_some, Int.natCast_nonneg, Int.toNat_natCast, decide_true, decide_false, Bool.and_true, Bool.and_self, Bool.not_true, Bool.not_false, Bool.false_and, Bool.true_and, un9, un21, un22, un23, un5, un50, ti9, ti22, ti23, ti50, ti25, ti27, pl25, pl27, fl25_0, fl25_1, fl27_0, fl27_1, el22, el23, un3, S1_fw, U1_fw, hd0] <;> rfl) ?_
        refine awp_cond (b := true) (by simp [alook, aput, ev]) ?_
        refine awp_run rfl (by simp only [fwA, ↓reduceIte, Nat.reduceAdd, Nat.reduceMul, Nat.reduceEqDiff, Nat.reduceLT, Nat.reduceLeDiff, reduceCtorEq, bitfw, Int.reduceToNat, Int.reduceLE, List.length_map, List.getElem?_map, Option.map_some, Int.natCast_nonneg, Int.toNat_natCast, decide_true, decide_false, Bool.and_true, Bool.and_self, Bool.not_true, Bool.not_false, Bool.false_and, Bool.true_and, un9, un21, un22, un23, un5, un50, ti9, ti22, ti23, ti50, ti25, ti27, pl25, pl27, fl25_0, fl25_1, fl27_0, fl27_1, el22, el23, un3, S1_fw, U1_fw, hq, List.length_cons, List.length_nil] <;> rfl) ?_
        exact ⟨_, by rw [if_neg (fun h => (hne.1 h) (by omega))], rfl, rfl, rfl⟩
      · have hd0 : decide ((0 : Int) < (i : Int)) = false := decide_eq_false h0
        refine awp_run rfl (by simp only [fwA, ↓reduceIte, Nat.reduceAdd, Nat.reduceMul, Nat.reduceEqDiff, Nat.reduceLT, Nat.reduceLeDiff, reduceCtorEq, bitfw, Int.reduceToNat, Int.reduceLE, List.length_map, List.getElem?_map, Option.map_some, Int.natCast_nonneg, Int.toNat_natCast, decide_true, decide_false, Bool.and_true, Bool.and_self, Bool.not_true, Bool.not_false, Bool.false_and, Bool.true_and, un9, un21, un22, un23, un5, un50, ti9, ti22, ti23, ti50, ti25, ti27, pl25, pl27, fl25_0, fl25_1, fl27_0, fl27_1, el22, el23, un3, S1_fw, U1_fw, hd0] <;> rfl) ?_
        refine awp_cond (b := false) (by simp [alook, aput, ev]) (awp_skip ?_)
        exact ⟨_, by rw [if_pos (hne.2 (by omega)), List.append_nil], rfl, rfl, rfl⟩
    rw [← hY] at hst
    have hYl : Y.length ≤ 1089 := by rw [hY, List.length_append]; split <;> simp only [List.length_cons, List.length_nil] <;> omega
    have hq : Y.length + s.length ≤ 9223372036854775807 := by omega
    refine awp_run rfl (by simp only [fwA, ↓reduceIte, Nat.reduceAdd, Nat.reduceMul, Nat.reduceEqDiff, Nat.reduceLT, Nat.reduceLeDiff, reduceCtorEq, bitfw, Int.reduceToNat, Int.reduceLE, List.length_map, List.getElem?_map, Option.map_some, Int.natCast_nonneg, Int.toNat_natCast, decide_true, decide_false, Bool.and_true, Bool.and_self, Bool.not_true, Bool.not_false, Bool.false_and, Bool.true_and, un9, un21, un22, un23, un5, un50, ti9, ti22, ti23, ti50, ti25, ti27, pl25, pl27, fl25_0, fl25_1, fl27_0, fl27_1, el22, el23, un3, S1_fw, U1_fw, hK0, ga, hq] <;> rfl) ?_
    refine awp_run rfl (by simp only [fwA, ↓reduceIte, Nat.reduceAdd, Nat.reduceMul, Nat.reduceEqDiff, Nat.reduceLT, Nat.reduceLeDiff, reduceCtorEq] <;> rfl) ?_
    refine ⟨i + 1, by omega, by omega, ?_, rfl, rfl⟩
    rw [hst]
    simp only [fwA, ↓reduceIte, Nat.reduceAdd, Nat.reduceMul, Nat.reduceEqDiff, Nat.reduceLT, Nat.reduceLeDiff, reduceCtorEq, List.map_cons, List.map_nil, hwi]
  simp only [hc, decide_false, Bool.false_eq_true, ↓reduceIte]
  refine awp_exit ?_
  have e1 : ns.take i = ns := List.take_of_length_le (by omega)
  rw [e1] at hjl2 ⊢
  have hq0 : (Lib.join ns [32]).length + 1 ≤ 9223372036854775807 := by omega
  generalize hB : Lib.join ns [32] ++ [10] = B
  have hBl : B.length ≤ 1089 := by rw [← hB, List.length_append, List.length_singleton]; omega
  refine awp_seq ?_
  refine awp_run rfl (by simp only [fwA, ↓reduceIte, Nat.reduceAdd, Nat.reduceMul, Nat.reduceEqDiff, Nat.reduceLT, Nat.reduceLeDiff, reduceCtorEq, bitfw, Int.reduceToNat, Int.reduceLE, List.length_map, List.getElem?_map, Option.map_some, Int.natCast_nonneg, Int.toNat_natCast, decide_true, decide_false, Bool.and_true, Bool.and_self, Bool.not_true, Bool.not_false, Bool.false_and, Bool.true_and, un9, un21, un22, un23, un5, un50, ti9, ti22, ti23, ti50, ti25, ti27, pl25, pl27, fl25_0, fl25_1, fl27_0, fl27_1, el22, el23, un3, S1_fw, U1_fw, hq0, hB, List.length_cons, List.length_nil] <;> rfl) ?_
  refine awp_seq ?_
  refine awp_seq ?_
  refine awp_run rfl (by simp only [fwA, ↓reduceIte, Nat.reduceAdd, Nat.reduceMul, Nat.reduceEqDiff, Nat.reduceLT, Nat.reduceLeDiff, reduceCtorEq] <;> rfl) ?_
  refine awp_block ?_
  refine awp_for [1, 3, 5] (fun i : Nat => [.ptr H.length 0, .str (B ++ ((us.take i).map (rowT us.length)).flatten), .int .i64 (i : Int)]) (fun _ => K) (fun i => us.length - i) (fun i => i ≤ us.length) 0 (by simp only [fwA, ↓reduceIte, Nat.reduceAdd, Nat.reduceMul, Nat.reduceEqDiff, Nat.reduceLT, Nat.reduceLeDiff, reduceCtorEq, List.map_cons, List.map_nil, List.take_zero, List.flatten_nil, List.append_nil, bitsT, List.range_zero]; rfl) rfl (Nat.zero_le _) fun i hil => ?_
  refine awp_seq ?_
  refine awp_seq ?_
  refine awp_region rfl ?_
  refine aops_run 2 (by simp only [fwA, ↓reduceIte, Nat.reduceAdd, Nat.reduceMul, Nat.reduceEqDiff, Nat.reduceLT, Nat.reduceLeDiff, reduceCtorEq, bitfw, Int.reduceToNat, Int.reduceLE, List.length_map, List.getElem?_map, Option.map_some, Int.natCast_nonneg, Int.toNat_natCast, decide_true, decide_false, Bool.and_true, Bool.and_self, Bool.not_true, Bool.not_false, Bool.false_and, Bool.true_and, un9, un21, un22, un23, un5, un50, ti9, ti22, ti23, ti50, ti25, ti27, pl25, pl27, fl25_0, fl25_1, fl27_0, fl27_1, el22, el23, un3, S1_fw, U1_fw, hK0] <;> rfl) ?_
  refine aops_fn rfl rfl rfl en48 h48 ?_
  refine aops_run 1 (by simp only [fwA, ↓reduceIte, Nat.reduceAdd, Nat.reduceMul, Nat.reduceEqDiff, Nat.reduceLT, Nat.reduceLeDiff, reduceCtorEq, bitfw, Int.reduceToNat, Int.reduceLE, List.length_map, List.getElem?_map, Option.map_some, Int.natCast_nonneg, Int.toNat_natCast, decide_true, decide_false, Bool.and_true, Bool.and_self, Bool.not_true, Bool.not_false, Bool.false_and, Bool.true_and, un9, un21, un22, un23, un5, un50, ti9, ti22, ti23, ti50, ti25, ti27, pl25, pl27, fl25_0, fl25_1, fl27_0, fl27_1, el22, el23, un3, S1_fw, U1_fw, hK0] <;> rfl) ?_
  refine aops_end ?_
  refine awp_cond (by simp only [fwA, ↓reduceIte, Nat.reduceAdd, Nat.reduceMul, Nat.reduceEqDiff, Nat.reduceLT, Nat.reduceLeDiff, reduceCtorEq] <;> rfl) ?_
  by_cases hc : (i : Int) < us.length
  rotate_left
  · simp only [hc, decide_false, Bool.false_eq_true, ↓reduceIte]
    refine awp_exit ?_
    have e2 : us.take i = us := List.take_of_length_le (by omega)
    rw [e2]
    refine awp_seq ?_
    refine awp_run rfl (by simp only [fwA, ↓reduceIte, Nat.reduceAdd, Nat.reduceMul, Nat.reduceEqDiff, Nat.reduceLT, Nat.reduceLeDiff, reduceCtorEq] <;> rfl) ?_
    refine awp_ret ?_
    exact hend _ _ rfl
  simp only [hc, decide_true, ↓reduceIte]
  refine awp_skip ?_
  have hill : i < us.length := by omega
  obtain ⟨x, gx, hx, ex⟩ := getW hw hill
  have hwi : IntKind.i64.wrap ((i : Int) + 1) = ((i + 1 : Nat) : Int) := wrapS i (by omega)
  have hst : ((us.take (i + 1)).map (rowT us.length)).flatten = ((us.take i).map (rowT us.length)).flatten ++ rowT us.length x := by rw [List.take_add_one, gx, List.map_append, List.flatten_append]; simp
  have hrl := rows_len us.length (us.take i)
  rw [List.length_take, Nat.min_eq_left hil] at hrl
  have hrl2 : i * (us.length + 1) ≤ 64 * (us.length + 1) := Nat.mul_le_mul_right _ (by omega)
  generalize hT : B ++ ((us.take i).map (rowT us.length)).flatten = T
  have hTl : T.length ≤ 6000 := by rw [← hT, List.length_append, hrl]; omega
  refine awp_seq ?_
  refine awp_block ?_
  refine awp_seq ?_
  refine awp_seq ?_
  refine awp_run rfl (by simp only [fwA, ↓reduceIte, Nat.reduceAdd, Nat.reduceMul, Nat.reduceEqDiff, Nat.reduceLT, Nat.reduceLeDiff, reduceCtorEq] <;> rfl) ?_
  refine awp_block ?_
  refine awp_for [1, 3, 5, 6] (fun j : Nat => [.ptr H.length 0, .str (T ++ bitsT x j), .int .i64 (i : Int), .int .i64 (j : Int)]) (fun _ => K) (fun j => us.length - j) (fun j => j ≤ us.length) 0 (by simp only [fwA, ↓reduceIte, Nat.reduceAdd, Nat.reduceMul, Nat.reduceEqDiff, Nat.reduceLT, Nat.reduceLeDiff, reduceCtorEq, List.map_cons, List.map_nil, List.take_zero, List.flatten_nil, List.append_nil, bitsT, List.range_zero]; rfl) rfl (Nat.zero_le _) fun j hjl => ?_
  refine awp_seq ?_
  refine awp_seq ?_
  refine awp_region rfl ?_
  refine aops_run 2 (by simp only [fwA, ↓reduceIte, Nat.reduceAdd, Nat.reduceMul, Nat.reduceEqDiff, Nat.reduceLT, Nat.reduceLeDiff, reduceCtorEq, bitfw, Int.reduceToNat, Int.reduceLE, List.length_map, List.getElem?_map, Option.map_some, Int.natCast_nonneg, Int.toNat_natCast, decide_true, decide_false, Bool.and_true, Bool.and_self, Bool.not_true, Bool.not_false, Bool.false_and, Bool.true_and, un9, un21, un22, un23, un5, un50, ti9, ti22, ti23, ti50, ti25, ti27, pl25, pl27, fl25_0, fl25_1, fl27_0, fl27_1, el22, el23, un3, S1_fw, U1_fw, hK0] <;> rfl) ?_
  refine aops_fn rfl rfl rfl en48 h48 ?_
  refine aops_run 1 (by simp only [fwA, ↓reduceIte, Nat.reduceAdd, Nat.reduceMul, Nat.reduceEqDiff, Nat.reduceLT, Nat.reduceLeDiff, reduceCtorEq, bitfw, Int.reduceToNat, Int.reduceLE, List.length_map, List.getElem?_map, Option.map_some, Int.natCast_nonneg, Int.toNat_natCast, decide_true, decide_false, Bool.and_true, Bool.and_self, Bool.not_true, Bool.not_false, Bool.false_and, Bool.true_and, un9, un21, un22, un23, un5, un50, ti9, ti22, ti23, ti50, ti25, ti27, pl25, pl27, fl25_0, fl25_1, fl27_0, fl27_1, el22, el23, un3, S1_fw, U1_fw, hK0] <;> rfl) ?_
  refine aops_end ?_
  refine awp_cond (by simp only [fwA, ↓reduceIte, Nat.reduceAdd, Nat.reduceMul, Nat.reduceEqDiff, Nat.reduceLT, Nat.reduceLeDiff, reduceCtorEq] <;> rfl) ?_
  have hq : (T ++ bitsT x j).length + 1 ≤ 9223372036854775807 := by rw [List.length_append, bitsT_len]; omega
  by_cases hcj : (j : Int) < us.length
  rotate_left
  · simp only [hcj, decide_false, Bool.false_eq_true, ↓reduceIte]
    refine awp_exit ?_
    have ej : j = us.length := by omega
    refine awp_run rfl (by simp only [fwA, ↓reduceIte, Nat.reduceAdd, Nat.reduceMul, Nat.reduceEqDiff, Nat.reduceLT, Nat.reduceLeDiff, reduceCtorEq, bitfw, Int.reduceToNat, Int.reduceLE, List.length_map, List.getElem?_map, Option.map_some, Int.natCast_nonneg, Int.toNat_natCast, decide_true, decide_false, Bool.and_true, Bool.and_self, Bool.not_true, Bool.not_false, Bool.false_and, Bool.true_and, un9, un21, un22, un23, un5, un50, ti9, ti22, ti23, ti50, ti25, ti27, pl25, pl27, fl25_0, fl25_1, fl27_0, fl27_1, el22, el23, un3, S1_fw, U1_fw, hq, List.length_cons, List.length_nil] <;> rfl) ?_
    refine awp_run rfl (by simp only [fwA, ↓reduceIte, Nat.reduceAdd, Nat.reduceMul, Nat.reduceEqDiff, Nat.reduceLT, Nat.reduceLeDiff, reduceCtorEq] <;> rfl) ?_
    refine ⟨i + 1, by omega, by omega, ?_, rfl, rfl⟩
    rw [hst, ← List.append_assoc, hT]
    simp only [fwA, ↓reduceIte, Nat.reduceAdd, Nat.reduceMul, Nat.reduceEqDiff, Nat.reduceLT, Nat.reduceLeDiff, reduceCtorEq, List.map_cons, List.map_nil, hwi, rowT, ej, List.append_assoc]
  simp only [hcj, decide_true, ↓reduceIte]
  refine awp_skip ?_
  have hwj : IntKind.i64.wrap ((j : Int) + 1) = ((j + 1 : Nat) : Int) := wrapS j (by omega)
  have hsj : bitsT x (j + 1) = bitsT x j ++ [bitC x j] := bitsT_succ x j
  have h18 := c18 Γ ns us hw (i : Int) (j : Int)
  rw [leq_nat r2 hill (by omega)] at h18
  have hlq : lq us i j = x.testBit j := by unfold lq; rw [ex]
  rw [hlq] at h18
  refine awp_seq ?_
  refine awp_block ?_
  refine awp_seq ?_
  refine awp_region rfl ?_
  refine aops_run 3 (by simp only [fwA, ↓reduceIte, Nat.reduceAdd, Nat.reduceMul, Nat.reduceEqDiff, Nat.reduceLT, Nat.reduceLeDiff, reduceCtorEq, bitfw, Int.reduceToNat, Int.reduceLE, List.length_map, List.getElem?_map, Option.map_some, Int.natCast_nonneg, Int.toNat_natCast, decide_true, decide_false, Bool.and_true, Bool.and_self, Bool.not_true, Bool.not_false, Bool.false_and, Bool.true_and, un9, un21, un22, un23, un5, un50, ti9, ti22, ti23, ti50, ti25, ti27, pl25, pl27, fl25_0, fl25_1, fl27_0, fl27_1, el22, el23, un3, S1_fw, U1_fw, hK0] <;> rfl) ?_
  refine aops_fn rfl rfl rfl en18 h18 ?_
  refine aops_end ?_
  refine awp_cond (by simp only [fwA, ↓reduceIte, Nat.reduceAdd, Nat.reduceMul, Nat.reduceEqDiff, Nat.reduceLT, Nat.reduceLeDiff, reduceCtorEq] <;> rfl) ?_
  cases hb : x.testBit j
  · have hbc : bitC x j = 48 := by unfold bitC; rw [hb]; rfl
    simp only [Bool.false_eq_true, ↓reduceIte]
    refine awp_run rfl (by simp only [fwA, ↓reduceIte, Nat.reduceAdd, Nat.reduceMul, Nat.reduceEqDiff, Nat.reduceLT, Nat.reduceLeDiff, reduceCtorEq, bitfw, Int.reduceToNat, Int.reduceLE, List.length_map, List.getElem?_map, Option.map_some, Int.natCast_nonneg, Int.toNat_natCast, decide_true, decide_false, Bool.and_true, Bool.and_self, Bool.not_true, Bool.not_false, Bool.false_and, Bool.true_and, un9, un21, un22, un23, un5, un50, ti9, ti22, ti23, ti50, ti25, ti27, pl25, pl27, fl25_0, fl25_1, fl27_0, fl27_1, el22, el23, un3, S1_fw, U1_fw, hq, List.length_cons, List.length_nil] <;> rfl) ?_
    refine awp_run rfl (by simp only [fwA, ↓reduceIte, Nat.reduceAdd, Nat.reduceMul, Nat.reduceEqDiff, Nat.reduceLT, Nat.reduceLeDiff, reduceCtorEq] <;> rfl) ?_
    refine ⟨j + 1, by omega, by omega, ?_, rfl, rfl⟩
    rw [hsj, hbc, ← List.append_assoc]
    simp only [fwA, ↓reduceIte, Nat.reduceAdd, Nat.reduceMul, Nat.reduceEqDiff, Nat.reduceLT, Nat.reduceLeDiff, reduceCtorEq, List.map_cons, List.map_nil, hwj]
  · have hbc : bitC x j = 49 := by unfold bitC; rw [hb]; rfl
    simp only [↓reduceIte]
    refine awp_run rfl (by simp only [fwA, ↓reduceIte, Nat.reduceAdd, Nat.reduceMul, Nat.reduceEqDiff, Nat.reduceLT, Nat.reduceLeDiff, reduceCtorEq, bitfw, Int.reduceToNat, Int.reduceLE, List.length_map, List.getElem?_map, Option.map_some, Int.natCast_nonneg, Int.toNat_natCast, decide_true, decide_false, Bool.and_true, Bool.and_self, Bool.not_true, Bool.not_false, Bool.false_and, Bool.true_and, un9, un21, un22, un23, un5, un50, ti9, ti22, ti23, ti50, ti25, ti27, pl25, pl27, fl25_0, fl25_1, fl27_0, fl27_1, el22, el23, un3, S1_fw, U1_fw, hq, List.length_cons, List.length_nil] <;> rfl) ?_
    refine awp_run rfl (by simp only [fwA, ↓reduceIte, Nat.reduceAdd, Nat.reduceMul, Nat.reduceEqDiff, Nat.reduceLT, Nat.reduceLeDiff, reduceCtorEq] <;> rfl) ?_
    refine ⟨j + 1, by omega, by omega, ?_, rfl, rfl⟩
    rw [hsj, hbc, ← List.append_assoc]
    simp only [fwA, ↓reduceIte, Nat.reduceAdd, Nat.reduceMul, Nat.reduceEqDiff, Nat.reduceLT, Nat.reduceLeDiff, reduceCtorEq, List.map_cons, List.map_nil, hwj]

end Go.Proofs.YtdhlghhokbmhdaaDoor
