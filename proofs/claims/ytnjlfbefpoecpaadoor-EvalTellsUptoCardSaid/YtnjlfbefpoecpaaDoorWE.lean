/- A loop that counts a cell down: computed. -/
import Derived.Test.YtnjlfbefpoecpaaDoorWD
namespace Go.Proofs.YtnjlfbefpoecpaaDoor
set_option linter.unusedVariables false
set_option linter.unusedSimpArgs false
set_option maxRecDepth 100000
open Go.RowKit Fw

def lessT : Tm := twoT 11 [] (varT [99]) (twoT 12 [45] (getT [99]) (numT 1))
def moreT : Tm := twoT 11 [] (varT [100]) (twoT 12 [43] (getT [100]) (getT [99]))
def loopT : Tm := twoT 13 [] (twoT 7 [] (getT [99]) (twoT 13 [] moreT lessT)) (getT [100])
def loopPg (n : Int) : Pg := ⟨[], [⟨[99], [76, 111], n⟩, ⟨[100], [76, 111], 0⟩], [], loopT⟩
def loopOk (n : Nat) : Bool :=
  let r := runP (loopPg n) [] 5000
  decide (r.st = 1) && decide (r.v.n = ((n * (n + 1) / 2 : Nat) : Int)) && decide (r.c.map (·.n) = [0, ((n * (n + 1) / 2 : Nat) : Int)]) && decide (r.f = 4994 - 17 * (n : Int))
theorem loops_ok : (List.range 50).all loopOk = true := by kernel_rfl

end Go.Proofs.YtnjlfbefpoecpaaDoor

/- The law of loops. -/
namespace Go.Proofs.YtnjlfbefpoecpaaDoor
set_option linter.unusedVariables false
set_option linter.unusedSimpArgs false
set_option maxRecDepth 100000
open Go.RowKit Fw

theorem wrapId {a : Int} (h : I64 a) : IntKind.i64.wrap a = a := by
  obtain ⟨h1, h2⟩ := h
  unfold IntKind.wrap
  have hb : IntKind.i64.bits = 64 := rfl
  have hsg : IntKind.i64.signed = true := rfl
  simp only [hb, hsg, Bool.true_and, decide_eq_true_eq]
  split <;> omega

theorem quo_ok : ∀ n : Nat, n < 50 → IntKind.i64.wrap ((IntKind.i64.wrap ((n : Int) * IntKind.i64.wrap ((n : Int) + 1))).tdiv 2) = ((n * (n + 1) / 2 : Nat) : Int) := by decide

theorem loopPg_le (n : Int) (b : Tm) (hb : b = loopT) : PV.leL (.vec [] true :: .vec ((loopPg n).cells.map Dl.enc) true :: .vec [] true :: b.enc) (loopPg n).enc := by
  subst hb
  simp [Pg.enc, loopPg, PV.le, PV.leL, PV.leLL, PV.leL_refl, PV.leLL_refl]

/-- EvalLoops -/
theorem c4 (Γ : Nat → PV) (hΓ : TabK Γ) (k : Int) (h0 : 0 ≤ k) (h1 : k < 256) : Gives Tryd.prog Γ 4 [.int .u8 k] (.bool true) := by
  refine fn_of_awp Tryd.func4 rfl (by simp [Tryd.f4]) rfl fun H => ?_
  refine awp_seq ?_
  obtain ⟨n, hn, hkn⟩ : ∃ n : Nat, n < 50 ∧ IntKind.i64.wrap (k.tmod 50) = n := ⟨(k.tmod 50).toNat, by
    have := Int.tmod_lt_of_pos k (show (0 : Int) < 50 by decide)
    have := Int.tmod_nonneg 50 h0
    omega, by
    have := Int.tmod_lt_of_pos k (show (0 : Int) < 50 by decide)
    have := Int.tmod_nonneg 50 h0
    rw [wrapId ⟨by omega, by omega⟩]; omega⟩
  have hk := loops_ok
  rw [List.all_eq_true] at hk
  have hok := hk n (List.mem_range.2 hn)
  simp only [loopOk, Bool.and_eq_true, decide_eq_true_eq] at hok
  obtain ⟨⟨⟨ho1, ho2⟩, ho3⟩, ho4⟩ := hok
  -- region 0
  refine awp_run rfl (by simp only [fw0, fw1, fw2, fw3, fw4, fw5, fw6, fw7, ↓reduceIte, Nat.reduceAdd, Nat.reduceMul, Nat.reduceEqDiff, Nat.reduceLT, Nat.reduceLeDiff, reduceCtorEq, Bool.false_eq_true, Bool.not_true, Bool.not_false, and_self, Nat.le_refl] <;> rfl) ?_
  refine awp_seq ?_
  -- region 1
  refine awp_region rfl ?_
  refine aops_fn rfl rfl rfl en9 (c9 Γ hΓ) ?_
  refine aops_run 1 (by simp only [fw0, fw1, fw2, fw3, fw4, fw5, fw6, fw7, ↓reduceIte, Nat.reduceAdd, Nat.reduceMul, Nat.reduceEqDiff, Nat.reduceLT, Nat.reduceLeDiff, reduceCtorEq, Bool.false_eq_true, Bool.not_true, Bool.not_false, and_self, Nat.le_refl] <;> rfl) ?_
  refine awp_seq ?_
  refine awp_seq ?_
  -- region 2
  refine awp_run rfl (by simp only [fw0, fw1, fw2, fw3, fw4, fw5, fw6, fw7, ↓reduceIte, Nat.reduceAdd, Nat.reduceMul, Nat.reduceEqDiff, Nat.reduceLT, Nat.reduceLeDiff, reduceCtorEq, Bool.false_eq_true, Bool.not_true, Bool.not_false, and_self, Nat.le_refl] <;> rfl) ?_
  refine awp_cond (b := false) rfl ?_
  refine awp_skip ?_
  refine awp_seq ?_
  -- region 4
  refine awp_run rfl (by simp only [fw0, fw1, fw2, fw3, fw4, fw5, fw6, fw7, ↓reduceIte, Nat.reduceAdd, Nat.reduceMul, Nat.reduceEqDiff, Nat.reduceLT, Nat.reduceLeDiff, reduceCtorEq, Bool.false_eq_true, Bool.not_true, Bool.not_false, and_self, Nat.le_refl, un5, un2] <;> rfl) ?_
  refine awp_seq ?_
  -- region 5
  refine awp_region rfl ?_
  refine aops_fn rfl rfl rfl en13 (c13 Γ [99]) ?_
  refine aops_fn rfl rfl rfl en16 (c16 Γ [99]) ?_
  refine aops_fn rfl rfl rfl en14 (c14 Γ 1) ?_
  refine aops_fn rfl rfl rfl en12 (c12 Γ 12 [45] (getT [99]) (numT 1)) ?_
  refine aops_fn rfl rfl rfl en12 (c12 Γ 11 [] (varT [99]) (twoT 12 [45] (getT [99]) (numT 1))) ?_
  refine aops_run 2 (by simp only [fw0, fw1, fw2, fw3, fw4, fw5, fw6, fw7, ↓reduceIte, Nat.reduceAdd, Nat.reduceMul, Nat.reduceEqDiff, Nat.reduceLT, Nat.reduceLeDiff, reduceCtorEq, Bool.false_eq_true, Bool.not_true, Bool.not_false, and_self, Nat.le_refl, ti29, Tm.fw] <;> rfl) ?_
  refine awp_seq ?_
  -- region 6
  refine awp_region rfl ?_
  refine aops_fn rfl rfl rfl en13 (c13 Γ [100]) ?_
  refine aops_fn rfl rfl rfl en16 (c16 Γ [100]) ?_
  refine aops_fn rfl rfl rfl en16 (c16 Γ [99]) ?_
  refine aops_fn rfl rfl rfl en12 (c12 Γ 12 [43] (getT [100]) (getT [99])) ?_
  refine aops_fn rfl rfl rfl en12 (c12 Γ 11 [] (varT [100]) (twoT 12 [43] (getT [100]) (getT [99]))) ?_
  refine aops_run 2 (by simp only [fw0, fw1, fw2, fw3, fw4, fw5, fw6, fw7, ↓reduceIte, Nat.reduceAdd, Nat.reduceMul, Nat.reduceEqDiff, Nat.reduceLT, Nat.reduceLeDiff, reduceCtorEq, Bool.false_eq_true, Bool.not_true, Bool.not_false, and_self, Nat.le_refl, ti29, Tm.fw] <;> rfl) ?_
  refine awp_seq ?_
  -- region 7
  refine awp_run rfl (by simp only [fw0, fw1, fw2, fw3, fw4, fw5, fw6, fw7, ↓reduceIte, Nat.reduceAdd, Nat.reduceMul, Nat.reduceEqDiff, Nat.reduceLT, Nat.reduceLeDiff, reduceCtorEq, Bool.false_eq_true, Bool.not_true, Bool.not_false, and_self, Nat.le_refl, ti51, pl51, un25, ti31, pl31] <;> rfl) ?_
  refine awp_seq ?_
  -- region 8 drawn
  refine awp_drawn [0, 1, 1, 0, 0, 0, 0, 0, 2] [0, 0, 0, 7, 15, 31, 63, 127, 255] mixed rfl (by kernel_rfl) ?_
  refine dops_fn rfl rfl rfl rfl en16 (c16 Γ [99]) ?_
  refine dops_run 2 (by simp only [fw0, fw1, fw2, fw3, fw4, fw5, fw6, fw7, ↓reduceIte, Nat.reduceAdd, Nat.reduceMul, Nat.reduceEqDiff, Nat.reduceLT, Nat.reduceLeDiff, reduceCtorEq, Bool.false_eq_true, Bool.not_true, Bool.not_false, and_self, Nat.le_refl, ti29, Tm.fw] <;> rfl) ?_
  refine dops_fn rfl rfl rfl rfl en12 (c12 Γ 13 [] moreT lessT) ?_
  refine dops_fn rfl rfl rfl rfl en12 (c12 Γ 7 [] (getT [99]) (twoT 13 [] moreT lessT)) ?_
  refine dops_fn rfl rfl rfl rfl en16 (c16 Γ [100]) ?_
  refine dops_fn rfl rfl rfl rfl en12 (c12 Γ 13 [] (twoT 7 [] (getT [99]) (twoT 13 [] moreT lessT)) (getT [100])) ?_
  refine dops_run 2 (by simp only [fw0, fw1, fw2, fw3, fw4, fw5, fw6, fw7, ↓reduceIte, Nat.reduceAdd, Nat.reduceMul, Nat.reduceEqDiff, Nat.reduceLT, Nat.reduceLeDiff, reduceCtorEq, Bool.false_eq_true, Bool.not_true, Bool.not_false, and_self, Nat.le_refl, fl31_3, ti29, Tm.fw] <;> rfl) ?_
  refine dops_end ?_
  refine awp_seq ?_
  -- region 9
  refine awp_region rfl ?_
  refine aops_run 1 (by simp only [fw0, fw1, fw2, fw3, fw4, fw5, fw6, fw7, ↓reduceIte, Nat.reduceAdd, Nat.reduceMul, Nat.reduceEqDiff, Nat.reduceLT, Nat.reduceLeDiff, reduceCtorEq, Bool.false_eq_true, Bool.not_true, Bool.not_false, and_self, Nat.le_refl, ti31] <;> rfl) ?_
  refine aops_fnLe rfl rfl rfl en15 (c15 Γ hΓ (loopPg (IntKind.i64.wrap (k.tmod 50))) [] 5000 (by decide) (by simp [loopPg])) ?_ ?_
  · exact ⟨loopPg_le _ _ rfl, ⟨nofun, trivial⟩, PV.le_refl _, trivial⟩
  refine aops_run 2 (by simp only [fw0, fw1, fw2, fw3, fw4, fw5, fw6, fw7, ↓reduceIte, Nat.reduceAdd, Nat.reduceMul, Nat.reduceEqDiff, Nat.reduceLT, Nat.reduceLeDiff, reduceCtorEq, Bool.false_eq_true, Bool.not_true, Bool.not_false, and_self, Nat.le_refl, ti47, resE_fw] <;> rfl) ?_
  rw [hkn]
  generalize runP (loopPg n) [] 5000 = r at ho1 ho2 ho3 ho4 ⊢
  obtain ⟨x, y, hx, hx0, hy0⟩ : ∃ x y, r.c = [x, y] ∧ x.n = 0 ∧ y.n = ((n * (n + 1) / 2 : Nat) : Int) := by
    cases h : r.c with
    | nil => rw [h] at ho3; cases ho3
    | cons x l =>
      rw [h] at ho3
      cases l with
      | nil => simp at ho3
      | cons y l =>
        cases l with
        | nil => simp only [List.map_cons, List.map_nil, List.cons.injEq, and_true] at ho3; exact ⟨x, y, rfl, ho3.1, ho3.2⟩
        | cons z l => simp at ho3
  have hd9 : (resE r).drop 9 = [.vec [x.enc, y.enc] false, .int .i64 r.f] := by simp only [resE_fw, hx]; rfl
  refine awp_seq ?_
  refine awp_seq ?_
  -- region 10
  refine awp_run rfl (by simp only [fw0, fw1, fw2, fw3, fw4, fw5, fw6, fw7, ↓reduceIte, Nat.reduceAdd, Nat.reduceMul, Nat.reduceEqDiff, Nat.reduceLT, Nat.reduceLeDiff, reduceCtorEq, Bool.false_eq_true, Bool.not_true, Bool.not_false, and_self, Nat.le_refl, fl47_2, ti45, un45, hd9, List.length_cons, List.length_nil, Fw.get_at] <;> rfl) ?_
  refine awp_cond (b := false) rfl ?_
  refine awp_skip ?_
  refine awp_seq ?_
  have hq : IntKind.i64.wrap ((IntKind.i64.wrap ((n : Int) * IntKind.i64.wrap ((n : Int) + 1))).tdiv 2) = ((n * (n + 1) / 2 : Nat) : Int) := quo_ok n hn
  have hf : IntKind.i64.wrap (4994 - IntKind.i64.wrap (17 * (n : Int))) = 4994 - 17 * (n : Int) := by
    rw [wrapId (a := 17 * (n : Int)) ⟨by omega, by omega⟩, wrapId ⟨by omega, by omega⟩]
  -- region 12 drawn
  refine awp_drawn [0, 0, 0, 1, 0, 0, 0, 0, 0, 1, 0, 0, 0, 0, 0, 0, 0, 0, 0, 1, 0, 0, 1, 0, 0, 0, 0, 1, 0, 0, 1, 0, 0, 1, 0, 0, 0, 0, 1, 0, 0, 0, 0, 0, 0] [0, 1, 3, 7, 15, 31, 63, 127, 255, 511, 127, 127, 2175, 7295, 15487, 32767, 65535, 131071, 262143, 524287, 1048575, 2097151, 4194303, 8388607, 16777215, 33554431, 67108863, 134217727, 268435455, 536870911, 1073741823, 67108863, 2214592511, 6509559807, 17179869183, 34359738367, 68719476735, 137438953471, 274877906943, 137438953471, 687194767359, 1786706395135, 4398046511103, 8796093022207, 17592186044415] mixed rfl (by kernel_rfl) ?_
  refine dops_run 6 (by simp only [fw0, fw1, fw2, fw3, fw4, fw5, fw6, fw7, ↓reduceIte, Nat.reduceAdd, Nat.reduceMul, Nat.reduceEqDiff, Nat.reduceLT, Nat.reduceLeDiff, reduceCtorEq, Bool.false_eq_true, Bool.not_true, Bool.not_false, and_self, Nat.le_refl, fl47_0, ti3, fl47_1, fl44_1, ti2, fl47_2, ti45, el45, fl53_1, fl47_3, hd9, resE_fw, resB_fw, Sl.fw, ho1, ho2, hx0, hy0, ho4, hq, hf, decide_true] <;> rfl) ?_
  refine dops_run 6 (by simp only [fw0, fw1, fw2, fw3, fw4, fw5, fw6, fw7, ↓reduceIte, Nat.reduceAdd, Nat.reduceMul, Nat.reduceEqDiff, Nat.reduceLT, Nat.reduceLeDiff, reduceCtorEq, Bool.false_eq_true, Bool.not_true, Bool.not_false, and_self, Nat.le_refl, fl47_0, ti3, fl47_1, fl44_1, ti2, fl47_2, ti45, el45, fl53_1, fl47_3, hd9, resE_fw, resB_fw, Sl.fw, ho1, ho2, hx0, hy0, ho4, hq, hf, decide_true] <;> rfl) ?_
  refine dops_run 6 (by simp only [fw0, fw1, fw2, fw3, fw4, fw5, fw6, fw7, ↓reduceIte, Nat.reduceAdd, Nat.reduceMul, Nat.reduceEqDiff, Nat.reduceLT, Nat.reduceLeDiff, reduceCtorEq, Bool.false_eq_true, Bool.not_true, Bool.not_false, and_self, Nat.le_refl, fl47_0, ti3, fl47_1, fl44_1, ti2, fl47_2, ti45, el45, fl53_1, fl47_3, hd9, resE_fw, resB_fw, Sl.fw, ho1, ho2, hx0, hy0, ho4, hq, hf, decide_true] <;> rfl) ?_
  refine dops_run 6 (by simp only [fw0, fw1, fw2, fw3, fw4, fw5, fw6, fw7, ↓reduceIte, Nat.reduceAdd, Nat.reduceMul, Nat.reduceEqDiff, Nat.reduceLT, Nat.reduceLeDiff, reduceCtorEq, Bool.false_eq_true, Bool.not_true, Bool.not_false, and_self, Nat.le_refl, fl47_0, ti3, fl47_1, fl44_1, ti2, fl47_2, ti45, el45, fl53_1, fl47_3, hd9, resE_fw, resB_fw, Sl.fw, ho1, ho2, hx0, hy0, ho4, hq, hf, decide_true] <;> rfl) ?_
  refine dops_run 7 (by simp only [fw0, fw1, fw2, fw3, fw4, fw5, fw6, fw7, ↓reduceIte, Nat.reduceAdd, Nat.reduceMul, Nat.reduceEqDiff, Nat.reduceLT, Nat.reduceLeDiff, reduceCtorEq, Bool.false_eq_true, Bool.not_true, Bool.not_false, and_self, Nat.le_refl, fl47_0, ti3, fl47_1, fl44_1, ti2, fl47_2, ti45, el45, fl53_1, fl47_3, hd9, resE_fw, resB_fw, Sl.fw, ho1, ho2, hx0, hy0, ho4, hq, hf, decide_true] <;> rfl) ?_
  refine dops_run 7 (by simp only [fw0, fw1, fw2, fw3, fw4, fw5, fw6, fw7, ↓reduceIte, Nat.reduceAdd, Nat.reduceMul, Nat.reduceEqDiff, Nat.reduceLT, Nat.reduceLeDiff, reduceCtorEq, Bool.false_eq_true, Bool.not_true, Bool.not_false, and_self, Nat.le_refl, fl47_0, ti3, fl47_1, fl44_1, ti2, fl47_2, ti45, el45, fl53_1, fl47_3, hd9, resE_fw, resB_fw, Sl.fw, ho1, ho2, hx0, hy0, ho4, hq, hf, decide_true] <;> rfl) ?_
  refine dops_run 7 (by simp only [fw0, fw1, fw2, fw3, fw4, fw5, fw6, fw7, ↓reduceIte, Nat.reduceAdd, Nat.reduceMul, Nat.reduceEqDiff, Nat.reduceLT, Nat.reduceLeDiff, reduceCtorEq, Bool.false_eq_true, Bool.not_true, Bool.not_false, and_self, Nat.le_refl, fl47_0, ti3, fl47_1, fl44_1, ti2, fl47_2, ti45, el45, fl53_1, fl47_3, hd9, resE_fw, resB_fw, Sl.fw, ho1, ho2, hx0, hy0, ho4, hq, hf, decide_true] <;> rfl) ?_
  refine dops_end ?_
  refine awp_ret ?_
  refine gives_end (.inl rfl) _ ?_
  simp [ares, aresL, ares1, rd, ev, alook, aput, Tryd.f4]

end Go.Proofs.YtnjlfbefpoecpaaDoor

/- What makes programs of bytes: its state in memory; a byte; a name of some; a list without a name. -/
namespace Go.Proofs.YtnjlfbefpoecpaaDoor
set_option linter.unusedVariables false
set_option linter.unusedSimpArgs false
set_option maxRecDepth 100000
open Go.RowKit Fw

/-- The blocks, where block b is another box. -/
def Bp (H : List Blk) (b : Nat) (cs : List PV) : List Blk := H.set b (.box cs)
section
variable {H : List Blk} {b : Nat}
theorem Bp_len (H : List Blk) (b : Nat) (cs : List PV) : (Bp H b cs).length = H.length := by simp [Bp]
theorem Bp_app (hb : b < H.length) (L : List Blk) (cs : List PV) : Bp (H ++ L) b cs = Bp H b cs ++ L := by
  unfold Bp
  rw [List.set_append_left _ _ hb]
theorem Bp_get0 (hb : b < H.length) (cs : List PV) : (Bp H b cs)[b]? = some (.box cs) := by
  unfold Bp
  rw [List.getElem?_set_self hb]
theorem Bp_get (hb : b < H.length) (cs : List PV) (L : List Blk) : (Bp H b cs ++ L)[b]? = some (.box cs) := by
  rw [List.getElem?_append_left (by rw [Bp_len]; exact hb), Bp_get0 hb]
theorem Bp_set0 (H : List Blk) (b : Nat) (cs cs' : List PV) : (Bp H b cs).set b (.box cs') = Bp H b cs' := by
  unfold Bp
  rw [List.set_set]
theorem Bp_set (hb : b < H.length) (cs cs' : List PV) (L : List Blk) : (Bp H b cs ++ L).set b (.box cs') = Bp H b cs' ++ L := by
  rw [List.set_append_left _ _ (by rw [Bp_len]; exact hb), Bp_set0]
theorem Bp_setd (hb : b < H.length) (cs : List PV) (B : Blk) (L : List Blk) : (Bp H b cs ++ L).set b B = H.set b B ++ L := by
  rw [List.set_append_left _ _ (by rw [Bp_len]; exact hb)]
  unfold Bp
  rw [List.set_set]
theorem Bp_at (H : List Blk) (b : Nat) (cs : List PV) (L : List Blk) (k : Nat) : (Bp H b cs ++ L)[H.length + k]? = L[k]? := by
  rw [← Bp_len H b cs]; exact Fw.get_at _ _ _
theorem Bp_at0 (H : List Blk) (b : Nat) (cs : List PV) (L : List Blk) : (Bp H b cs ++ L)[H.length]? = L[0]? := Bp_at H b cs L 0
theorem Bp_seta (H : List Blk) (b : Nat) (cs : List PV) (L : List Blk) (k : Nat) (B : Blk) : (Bp H b cs ++ L).set (H.length + k) B = Bp H b cs ++ L.set k B := by
  rw [← Bp_len H b cs]; exact Fw.set_at _ _ _ _
theorem Bp_seta0 (H : List Blk) (b : Nat) (cs : List PV) (L : List Blk) (B : Blk) : (Bp H b cs ++ L).set H.length B = Bp H b cs ++ L.set 0 B := Bp_seta H b cs L 0 B
theorem Bp_self {cs : List PV} (h : H[b]? = some (.box cs)) : Bp H b cs = H := by
  unfold Bp
  apply List.ext_getElem? fun i => ?_
  by_cases e : i = b
  · subst e; rw [List.getElem?_set_self (List.getElem?_eq_some_iff.1 h).1, h]
  · rw [List.getElem?_set_ne (Ne.symm e)]
theorem Bp_bd (hb : b < H.length) {cs cs' : List PV} (h : ∀ B ∈ Bp H b cs, B.bd (Bp H b cs).length = true) (hc : PV.bdL H.length cs' = true) : ∀ B ∈ Bp H b cs', B.bd H.length = true := fun B hB => by
  obtain ⟨i, hi⟩ := List.mem_iff_getElem?.1 hB
  by_cases e : i = b
  · subst e
    rw [Bp_get0 hb] at hi
    cases hi
    exact hc
  · have h2 : (Bp H b cs)[i]? = some B := by
      unfold Bp at hi ⊢
      rw [List.getElem?_set_ne (Ne.symm e)] at hi ⊢
      exact hi
    have := h B (List.mem_of_getElem? h2)
    rwa [Bp_len] at this

/-- The end of a function that leaves one box another, and blocks of its own that nobody asks for. -/
theorem ret_Bp {Γ : Nat → PV} {fn : Func} (hb : b < H.length) {cs cs' : List PV} {p : PV} {R : PV → List Blk → Prop} {A' : List (Nat × PV)} {e : Exit} (he : e = .ret ∨ e = .normal) (hbd : ∀ B ∈ Bp H b cs, B.bd (Bp H b cs).length = true)
    (L : List Blk) (h : ares Tryd.prog Γ A' (Bp H b cs' ++ L) fn.results.toList = some p) (hp : p.bd H.length = true) (hc : PV.bdL H.length cs' = true) (hR : R p (Bp H b cs')) : RetQ Tryd.prog Γ fn (Bp H b cs).length R e A' (Bp H b cs' ++ L) [] := by
  have ht : (Bp H b cs' ++ L).take H.length = Bp H b cs' := List.take_left' (Bp_len _ _ _)
  exact ⟨he, List.nodup_nil, (fun b hb => by cases hb), p, H.length, h, by rw [Bp_len]; exact Nat.le_refl _, by rw [List.length_append, Bp_len]; omega, fun b hb => (by cases hb), hp, by rw [ht]; exact Bp_bd hb hbd hc, by rw [ht]; exact hR⟩
end

theorem ret_Bp0 {Γ : Nat → PV} {fn : Func} {H : List Blk} {b : Nat} (hb : b < H.length) {cs cs' : List PV} {p : PV} {R : PV → List Blk → Prop} {A' : List (Nat × PV)} {e : Exit} (he : e = .ret ∨ e = .normal) (hbd : ∀ B ∈ Bp H b cs, B.bd (Bp H b cs).length = true)
    (h : ares Tryd.prog Γ A' (Bp H b cs') fn.results.toList = some p) (hp : p.bd H.length = true) (hc : PV.bdL H.length cs' = true) (hR : R p (Bp H b cs')) : RetQ Tryd.prog Γ fn (Bp H b cs).length R e A' (Bp H b cs') [] := by
  have := ret_Bp (Γ := Γ) (fn := fn) hb (cs' := cs') (R := R) (A' := A') he hbd [] (by rw [List.append_nil]; exact h) hp hc hR
  rwa [List.append_nil] at this

/-- The state of what makes programs. -/
def mk5 (L : List Int) (at' : Nat) (I C F : PV) : List PV := [.vec (L.map fun n => [.int .u8 n]) false, .int .i64 at', I, C, F]
def U8s (L : List Int) : Prop := L.length ≤ 90 ∧ ∀ x ∈ L, 0 ≤ x ∧ x < 256
theorem mk5_fw : (∀ L a I C F, (mk5 L a I C F)[0]? = some (.vec (L.map fun n => [.int .u8 n]) false)) ∧ (∀ L a I C F, (mk5 L a I C F).drop 1 = [.int .i64 (a : Nat), I, C, F]) ∧ (∀ L a I C F, (mk5 L a I C F).drop 2 = [I, C, F]) ∧ (∀ L a I C F, (mk5 L a I C F).drop 3 = [C, F]) ∧ (∀ L a I C F, (mk5 L a I C F).drop 4 = [F]) ∧
    (∀ L a I C F, (mk5 L a I C F).length = 5) ∧ (∀ L a I C F, (mk5 L a I C F).take 1 = [.vec (L.map fun n => [.int .u8 n]) false]) ∧ (∀ L a I C F, (mk5 L a I C F).take 2 = [.vec (L.map fun n => [.int .u8 n]) false, .int .i64 (a : Nat)]) ∧
    (∀ L a I C F, (mk5 L a I C F).take 3 = [.vec (L.map fun n => [.int .u8 n]) false, .int .i64 (a : Nat), I]) ∧ (∀ L a I C F, (mk5 L a I C F).take 4 = [.vec (L.map fun n => [.int .u8 n]) false, .int .i64 (a : Nat), I, C]) ∧ (∀ L a I C F, (mk5 L a I C F)[1]? = some (.int .i64 (a : Nat))) :=
  ⟨fun _ _ _ _ _ => rfl, fun _ _ _ _ _ => rfl, fun _ _ _ _ _ => rfl, fun _ _ _ _ _ => rfl, fun _ _ _ _ _ => rfl, fun _ _ _ _ _ => rfl, fun _ _ _ _ _ => rfl, fun _ _ _ _ _ => rfl, fun _ _ _ _ _ => rfl, fun _ _ _ _ _ => rfl, fun _ _ _ _ _ => rfl⟩

theorem mk5_bd {H : List Blk} {b : Nat} (hb : b < H.length) {L : List Int} {a : Nat} {I C F : PV} (hbd : ∀ B ∈ Bp H b (mk5 L a I C F), B.bd (Bp H b (mk5 L a I C F)).length = true) : ∀ a', PV.bdL H.length (mk5 L a' I C F) = true := fun a' => by
  have := hbd (.box (mk5 L a I C F)) (List.mem_of_getElem? (Bp_get0 hb _))
  rw [Bp_len] at this
  simpa [Blk.bd, mk5, PV.bdL, PV.bd] using this

/-- The next byte, and where one stands behind it. -/
def byteF (L : List Int) (a : Nat) : Int × Nat := if L.length ≤ a then (0, a) else (L.getD a 0, a + 1)

theorem byteF_range {L : List Int} (hL : U8s L) (a : Nat) : 0 ≤ (byteF L a).1 ∧ (byteF L a).1 < 256 := by
  unfold byteF
  split
  · exact ⟨Int.le_refl _, (by show (0 : Int) < 256; decide)⟩
  · rename_i h
    have : L.getD a 0 ∈ L := by
      rw [List.getD_eq_getElem?_getD, List.getElem?_eq_getElem (by omega)]
      exact List.getElem_mem _
    exact hL.2 _ this

/-- Maker.byte -/
theorem c33 (Γ : Nat → PV) {H : List Blk} {b : Nat} (hb : b < H.length) {L : List Int} (hL : U8s L) (a : Nat) (I C F : PV) :
    ACalls Tryd.prog Γ 33 [.ptr b 0] (Bp H b (mk5 L a I C F)) (fun p H' => p = .int .i64 (byteF L a).1 ∧ H' = Bp H b (mk5 L (byteF L a).2 I C F)) := by
  refine acalls_of_awp Tryd.func33 rfl (by simp [Tryd.f33]) fun hbd => ?_
  have hmk := mk5_bd hb hbd
  refine awp_seq ?_
  -- region 0
  refine awp_run rfl (by simp only [fw0, fw1, fw2, fw3, fw4, fw5, fw6, fw7, ↓reduceIte, Nat.reduceAdd, Nat.reduceMul, Nat.reduceEqDiff, Nat.reduceLT, Nat.reduceLeDiff, reduceCtorEq, Bool.false_eq_true, Bool.not_true, Bool.not_false, and_self, Nat.le_refl] <;> rfl) ?_
  refine awp_seq ?_
  refine awp_seq ?_
  -- region 1 drawn
  refine awp_drun [0, 0, 0, 1, 0, 0, 0, 1, 0, 0] [0, 1, 3, 7, 0, 16, 48, 112, 240, 511] mixed rfl (by kernel_rfl) (by simp only [fw0, fw1, fw2, fw3, fw4, fw5, fw6, fw7, ↓reduceIte, Nat.reduceAdd, Nat.reduceMul, Nat.reduceEqDiff, Nat.reduceLT, Nat.reduceLeDiff, reduceCtorEq, Bool.false_eq_true, Bool.not_true, Bool.not_false, and_self, Nat.le_refl, fl59_1, ti3, fl59_0, ti22, un22, Bp_get0 hb, mk5_fw, List.length_map] <;> rfl) ?_
  refine awp_cond (by simp only [fw0, fw1, fw2, fw3, fw4, fw5, fw6, fw7, ↓reduceIte, Nat.reduceAdd, Nat.reduceMul, Nat.reduceEqDiff, Nat.reduceLT, Nat.reduceLeDiff, reduceCtorEq, Bool.false_eq_true, Bool.not_true, Bool.not_false, and_self, Nat.le_refl] <;> rfl) ?_
  by_cases hc : (L.length : Int) ≤ a
  · simp only [hc, decide_true, ↓reduceIte]
    refine awp_seq ?_
    -- region 2
    refine awp_run rfl (by simp only [fw0, fw1, fw2, fw3, fw4, fw5, fw6, fw7, ↓reduceIte, Nat.reduceAdd, Nat.reduceMul, Nat.reduceEqDiff, Nat.reduceLT, Nat.reduceLeDiff, reduceCtorEq, Bool.false_eq_true, Bool.not_true, Bool.not_false, and_self, Nat.le_refl] <;> rfl) ?_
    refine awp_ret ?_
    have e : byteF L a = (0, a) := by unfold byteF; rw [if_pos (by omega)]
    simp only [Post.then, reduceCtorEq, ↓reduceIte]
    exact ret_Bp0 hb (p := .int .i64 0) (.inl rfl) hbd (by simp [ares, aresL, ares1, rd, ev, alook, aput, Tryd.f33]) rfl (hmk a) ⟨by rw [e], by rw [e]⟩
  simp only [hc, decide_false, Bool.false_eq_true, ↓reduceIte]
  refine awp_skip ?_
  have hal : a < L.length := by omega
  have e : byteF L a = (L[a], a + 1) := by unfold byteF; rw [if_neg (by omega), List.getD_eq_getElem?_getD, List.getElem?_eq_getElem hal]; rfl
  have hx := hL.2 L[a] (List.getElem_mem _)
  have hl90 := hL.1
  have g : L[a]? = some L[a] := List.getElem?_eq_getElem hal
  have hwx : IntKind.i64.wrap L[a] = L[a] := wrapId ⟨by omega, by omega⟩
  have hwa : IntKind.i64.wrap ((a : Int) + 1) = ((a + 1 : Nat) : Int) := wrapS a (by omega)
  have hwb : IntKind.i64.wrap (((a + 1 : Nat) : Int) - 1) = (a : Int) := by rw [wrapId ⟨by omega, by omega⟩]; omega
  refine awp_seq ?_
  -- region 3
  refine awp_run rfl (by simp only [fw0, fw1, fw2, fw3, fw4, fw5, fw6, fw7, ↓reduceIte, Nat.reduceAdd, Nat.reduceMul, Nat.reduceEqDiff, Nat.reduceLT, Nat.reduceLeDiff, reduceCtorEq, Bool.false_eq_true, Bool.not_true, Bool.not_false, and_self, Nat.le_refl, fl59_1, ti3, Bp_get0 hb, Bp_set0, mk5_fw, hwa] <;> rfl) ?_
  refine awp_heap (H' := Bp H b (mk5 L (a + 1) I C F)) rfl ?_
  refine awp_seq ?_
  -- region 4 drawn
  refine awp_drun [0, 0, 0, 1, 0, 0, 0, 1, 0, 0, 1, 0, 0] [0, 1, 3, 7, 0, 16, 48, 112, 240, 511, 1023, 2047, 4095] mixed rfl (by kernel_rfl) (by simp only [fw0, fw1, fw2, fw3, fw4, fw5, fw6, fw7, ↓reduceIte, Nat.reduceAdd, Nat.reduceMul, Nat.reduceEqDiff, Nat.reduceLT, Nat.reduceLeDiff, reduceCtorEq, Bool.false_eq_true, Bool.not_true, Bool.not_false, and_self, Nat.le_refl, fl59_0, ti22, fl59_1, ti3, el22, ti5, un5, un3, Bp_get0 hb, mk5_fw, hwb, List.getElem?_map, g, Option.map_some, Int.natCast_nonneg, hwx] <;> rfl) ?_
  refine awp_ret ?_
  exact ret_Bp0 hb (p := .int .i64 L[a]) (.inl rfl) hbd (by simp [ares, aresL, ares1, rd, ev, alook, aput, Tryd.f33]) rfl (hmk _) ⟨by rw [e], by rw [e]⟩

end Go.Proofs.YtnjlfbefpoecpaaDoor

/- A name of some; a list without a name. -/
namespace Go.Proofs.YtnjlfbefpoecpaaDoor
set_option linter.unusedVariables false
set_option linter.unusedSimpArgs false
set_option maxRecDepth 100000
open Go.RowKit Fw

/-- Names, in cells. -/
def sv (l : List (List UInt8)) : PV := .vec (l.map fun s => [.str s]) false
theorem sv_bd (n : Nat) (l : List (List UInt8)) : (sv l).bd n = true := rfl

def S1 (s : List UInt8) : List PV := [.str s]
theorem S1_len (s : List UInt8) : (S1 s).length = 1 := rfl

/-- Names: a list that no one turns any more, or one's own row. -/
def Nm (H : List Blk) (p : PV) (l : List (List UInt8)) : Prop := p = sv l ∨ ∃ r, p = .row r 0 l.length 1 ∧ H[r]? = some (.row 1 ((l.map S1).flatten))
/-- So, but for one block. -/
def NmB (H : List Blk) (b : Nat) (p : PV) (l : List (List UInt8)) : Prop := p = sv l ∨ ∃ r, r ≠ b ∧ p = .row r 0 l.length 1 ∧ H[r]? = some (.row 1 ((l.map S1).flatten))
theorem nm_sv (H : List Blk) (l : List (List UInt8)) : Nm H (sv l) l := .inl rfl
theorem nmB_sv (H : List Blk) (b : Nat) (l : List (List UInt8)) : NmB H b (sv l) l := .inl rfl
theorem NmB.nm {H : List Blk} {b : Nat} {p : PV} {l : List (List UInt8)} (h : NmB H b p l) (cs : List PV) (L : List Blk) : Nm (Bp H b cs ++ L) p l := by
  rcases h with rfl | ⟨r, h1, rfl, h2⟩
  · exact .inl rfl
  · refine .inr ⟨r, rfl, ?_⟩
    have hr := (List.getElem?_eq_some_iff.1 h2).1
    rw [List.getElem?_append_left (by rw [Bp_len]; exact hr)]
    unfold Bp
    rw [List.getElem?_set_ne (Ne.symm h1)]
    exact h2
theorem NmB.app {H : List Blk} {b : Nat} {p : PV} {l : List (List UInt8)} (h : NmB H b p l) (L : List Blk) : NmB (H ++ L) b p l := by
  rcases h with rfl | ⟨r, h1, rfl, h2⟩
  · exact .inl rfl
  · refine .inr ⟨r, h1, rfl, ?_⟩
    rw [List.getElem?_append_left (List.getElem?_eq_some_iff.1 h2).1]
    exact h2
theorem Nm.len {H : List Blk} {p : PV} {l : List (List UInt8)} (h : Nm H p l) : alen p = some l.length := by
  rcases h with rfl | ⟨r, rfl, h2⟩
  · simp [sv, alen]
  · rfl
theorem Nm.src {H : List Blk} {p : PV} {l : List (List UInt8)} (h : Nm H p l) : srcOf H 1 p = some ((l.map S1).flatten) := by
  rcases h with rfl | ⟨r, rfl, h2⟩
  · rfl
  · have hl : ((l.map S1).flatten).length = 0 + l.length * 1 := by rw [flat_len S1_len]; omega
    show (match H[r]? with | some (Blk.row sz'' cs) => _ | _ => _) = _
    rw [h2]
    exact if_pos ⟨rfl, rfl, hl, flat_bd (fun _ => rfl) _⟩
theorem Nm.vec {H : List Blk} {p : PV} {l : List (List UInt8)} (h : Nm H p l) : ∀ es f, p = .vec es f → ∀ e ∈ es, e.length = 1 := fun es f he e hm => by
  rcases h with rfl | ⟨r, rfl, h2⟩
  · simp only [sv, PV.vec.injEq] at he
    obtain ⟨rfl, rfl⟩ := he
    obtain ⟨y, _, rfl⟩ := List.mem_map.1 hm
    rfl
  · cases he
theorem Nm.frz {H : List Blk} {p : PV} {l : List (List UInt8)} (h : Nm H p l) {r k : Nat} (hr : H.length ≤ r) (X : List PV) : Fw.frz r k X p = p := by
  rcases h with rfl | ⟨q, rfl, h2⟩
  · rfl
  · have := (List.getElem?_eq_some_iff.1 h2).1
    unfold Fw.frz
    dsimp only
    rw [if_neg (fun h => by omega)]

/-- A name of some. -/
def ofF (L : List Int) (a : Nat) (l : List (List UInt8)) : Tm × Nat :=
  (if l = [] then numT ((byteF L a).1.tmod 4) else varT (l.getD ((byteF L a).1.tmod l.length).toNat []), (byteF L a).2)

theorem flat_at1 {l : List (List UInt8)} {i : Nat} (h : i < l.length) : ((l.map S1).flatten)[i * 1 + 0]? = some (.str l[i]) := by
  induction l generalizing i with
  | nil => simp at h
  | cons x l ih =>
    cases i with
    | zero => rfl
    | succ i =>
      simp only [List.length_cons] at h
      have := ih (i := i) (by omega)
      simpa [S1] using this

/-- Maker.of, of a list that no one turns -/
theorem c55v (Γ : Nat → PV) {H : List Blk} {b : Nat} (hb : b < H.length) {L : List Int} (hL : U8s L) (a : Nat) (l : List (List UInt8)) (I C F : PV) :
    ACalls Tryd.prog Γ 55 [.ptr b 0, sv l] (Bp H b (mk5 L a I C F)) (fun p H' => p = .agg (ofF L a l).1.enc ∧ H' = Bp H b (mk5 L (ofF L a l).2 I C F)) := by
  refine acalls_of_awp Tryd.func55 rfl (by simp [Tryd.f55]) fun hbd => ?_
  have hmk := mk5_bd hb hbd
  have hk := byteF_range hL a
  unfold sv
  refine awp_vlen 1 rfl fun hlen => ?_
  rw [List.length_map] at hlen
  refine awp_seq ?_
  -- region 0
  refine awp_run rfl (by simp only [fw0, fw1, fw2, fw3, fw4, fw5, fw6, fw7, ↓reduceIte, Nat.reduceAdd, Nat.reduceMul, Nat.reduceEqDiff, Nat.reduceLT, Nat.reduceLeDiff, reduceCtorEq, Bool.false_eq_true, Bool.not_true, Bool.not_false, and_self, Nat.le_refl, ti29, Bp_len] <;> rfl) ?_
  refine awp_seq ?_
  -- region 1
  refine awp_region rfl ?_
  refine aops_run 1 (by simp only [fw0, fw1, fw2, fw3, fw4, fw5, fw6, fw7, ↓reduceIte, Nat.reduceAdd, Nat.reduceMul, Nat.reduceEqDiff, Nat.reduceLT, Nat.reduceLeDiff, reduceCtorEq, Bool.false_eq_true, Bool.not_true, Bool.not_false, and_self, Nat.le_refl] <;> rfl) ?_
  have h33 := c33 Γ (H := H ++ [.box [.int .i64 0, .str [], .int .i64 0, .vec [] true]]) (b := b) (by simp; omega) hL a I C F
  simp only [Bp_app hb] at h33
  refine aops_call rfl rfl rfl en33 (h33.mono fun p H' hp => ?_)
  obtain ⟨rfl, rfl⟩ := hp
  refine aops_run 1 (by simp only [fw0, fw1, fw2, fw3, fw4, fw5, fw6, fw7, ↓reduceIte, Nat.reduceAdd, Nat.reduceMul, Nat.reduceEqDiff, Nat.reduceLT, Nat.reduceLeDiff, reduceCtorEq, Bool.false_eq_true, Bool.not_true, Bool.not_false, and_self, Nat.le_refl] <;> rfl) ?_
  refine awp_seq ?_
  refine awp_seq ?_
  -- region 2
  refine awp_run rfl (by simp only [fw0, fw1, fw2, fw3, fw4, fw5, fw6, fw7, ↓reduceIte, Nat.reduceAdd, Nat.reduceMul, Nat.reduceEqDiff, Nat.reduceLT, Nat.reduceLeDiff, reduceCtorEq, Bool.false_eq_true, Bool.not_true, Bool.not_false, and_self, Nat.le_refl, un33, List.length_map] <;> rfl) ?_
  refine awp_cond (by simp only [fw0, fw1, fw2, fw3, fw4, fw5, fw6, fw7, ↓reduceIte, Nat.reduceAdd, Nat.reduceMul, Nat.reduceEqDiff, Nat.reduceLT, Nat.reduceLeDiff, reduceCtorEq, Bool.false_eq_true, Bool.not_true, Bool.not_false, and_self, Nat.le_refl] <;> rfl) ?_
  by_cases hc : l = []
  · subst hc
    simp only [List.length_nil, decide_true, ↓reduceIte]
    refine awp_seq ?_
    -- region 3
    refine awp_run rfl (by simp only [fw0, fw1, fw2, fw3, fw4, fw5, fw6, fw7, ↓reduceIte, Nat.reduceAdd, Nat.reduceMul, Nat.reduceEqDiff, Nat.reduceLT, Nat.reduceLeDiff, reduceCtorEq, Bool.false_eq_true, Bool.not_true, Bool.not_false, and_self, Nat.le_refl, ti29, pl29, Bp_at0, Bp_seta0, ne_eq, Int.reduceEq, not_false_eq_true] <;> rfl) ?_
    refine awp_told (told_leBox H.length (by rw [Bp_at0]; rfl) (leaf_le 1 [] ((byteF L a).1.tmod 4))) ?_
    refine awp_heap (H' := Bp H b (mk5 L (byteF L a).2 I C F) ++ [.box (numT ((byteF L a).1.tmod 4)).enc]) (by rw [Bp_seta0]; rfl) ?_
    refine awp_ret ?_
    simp only [Post.then, reduceCtorEq, ↓reduceIte]
    exact ret_Bp hb (p := .agg (numT ((byteF L a).1.tmod 4)).enc) (.inl rfl) hbd _ (by simp [ares, aresL, ares1, rd, ev, alook, aput, Tryd.f55, ti29, Tm.fw, Bp_at0]) (by simp [PV.bd, Tm.fw]) (hmk _) ⟨by unfold ofF; rw [if_pos rfl], rfl⟩
  have hpos : 0 < l.length := List.length_pos_iff.2 hc
  have hne : ¬ ((l.length : Int) = 0) := by omega
  simp only [hne, decide_false, Bool.false_eq_true, ↓reduceIte]
  refine awp_skip ?_
  have hm0 : 0 ≤ (byteF L a).1.tmod l.length := Int.tmod_nonneg _ hk.1
  have hm1 : (byteF L a).1.tmod l.length < l.length := Int.tmod_lt_of_pos _ (by omega)
  obtain ⟨i, hi⟩ : ∃ i : Nat, (byteF L a).1.tmod l.length = i := ⟨_, (Int.toNat_of_nonneg hm0).symm⟩
  have hil : i < l.length := by omega
  have g : l[i]? = some l[i] := List.getElem?_eq_getElem hil
  have hof : (ofF L a l).1 = varT l[i] := by
    unfold ofF
    simp only [if_neg hc, hi, Int.toNat_natCast, List.getD_eq_getElem?_getD, g, Option.getD_some]
  refine awp_seq ?_
  -- region 4
  refine awp_run rfl (by simp only [fw0, fw1, fw2, fw3, fw4, fw5, fw6, fw7, ↓reduceIte, Nat.reduceAdd, Nat.reduceMul, Nat.reduceEqDiff, Nat.reduceLT, Nat.reduceLeDiff, reduceCtorEq, Bool.false_eq_true, Bool.not_true, Bool.not_false, and_self, Nat.le_refl, un33, List.length_map, hne, hi, el33, ti9, List.getElem?_map, g, Option.map_some, Int.natCast_nonneg, ti29, pl29, Bp_at0, Bp_seta0, ne_eq, not_false_eq_true] <;> rfl) ?_
  refine awp_told (told_leBox H.length (by rw [Bp_at0]; rfl) (leaf_le 2 l[i] 0)) ?_
  refine awp_heap (H' := Bp H b (mk5 L (byteF L a).2 I C F) ++ [.box (varT l[i]).enc]) (by rw [Bp_seta0]; rfl) ?_
  refine awp_ret ?_
  exact ret_Bp hb (p := .agg (varT l[i]).enc) (.inl rfl) hbd _ (by simp [ares, aresL, ares1, rd, ev, alook, aput, Tryd.f55, ti29, Tm.fw, Bp_at0]) (by simp [PV.bd, Tm.fw]) (hmk _) ⟨by rw [hof], rfl⟩

/-- Maker.of, of one's own row -/
theorem c55r (Γ : Nat → PV) {H : List Blk} {b : Nat} (hb : b < H.length) {L : List Int} (hL : U8s L) (a : Nat) (l : List (List UInt8)) (r : Nat) (hrb : r ≠ b) (hrow : H[r]? = some (.row 1 ((l.map S1).flatten))) (I C F : PV) :
    ACalls Tryd.prog Γ 55 [.ptr b 0, .row r 0 l.length 1] (Bp H b (mk5 L a I C F)) (fun p H' => p = .agg (ofF L a l).1.enc ∧ H' = Bp H b (mk5 L (ofF L a l).2 I C F)) := by
  refine acalls_of_awp Tryd.func55 rfl (by simp [Tryd.f55]) fun hbd => ?_
  have hmk := mk5_bd hb hbd
  have hk := byteF_range hL a
  have hrow2 : ∀ cs L, (Bp H b cs ++ L)[r]? = some (.row 1 ((l.map S1).flatten)) := fun cs L => by
    rw [List.getElem?_append_left (by rw [Bp_len]; exact (List.getElem?_eq_some_iff.1 hrow).1)]
    unfold Bp
    rw [List.getElem?_set_ne (Ne.symm hrb)]
    exact hrow
  have hfl : ((l.map S1).flatten).length = l.length * 1 := flat_len S1_len _
  refine awp_seq ?_
  -- region 0
  refine awp_run rfl (by simp only [fw0, fw1, fw2, fw3, fw4, fw5, fw6, fw7, ↓reduceIte, Nat.reduceAdd, Nat.reduceMul, Nat.reduceEqDiff, Nat.reduceLT, Nat.reduceLeDiff, reduceCtorEq, Bool.false_eq_true, Bool.not_true, Bool.not_false, and_self, Nat.le_refl, ti29, Bp_len] <;> rfl) ?_
  refine awp_seq ?_
  -- region 1
  refine awp_region rfl ?_
  refine aops_run 1 (by simp only [fw0, fw1, fw2, fw3, fw4, fw5, fw6, fw7, ↓reduceIte, Nat.reduceAdd, Nat.reduceMul, Nat.reduceEqDiff, Nat.reduceLT, Nat.reduceLeDiff, reduceCtorEq, Bool.false_eq_true, Bool.not_true, Bool.not_false, and_self, Nat.le_refl] <;> rfl) ?_
  have h33 := c33 Γ (H := H ++ [.box [.int .i64 0, .str [], .int .i64 0, .vec [] true]]) (b := b) (by simp; omega) hL a I C F
  simp only [Bp_app hb] at h33
  refine aops_call rfl rfl rfl en33 (h33.mono fun p H' hp => ?_)
  obtain ⟨rfl, rfl⟩ := hp
  refine aops_run 1 (by simp only [fw0, fw1, fw2, fw3, fw4, fw5, fw6, fw7, ↓reduceIte, Nat.reduceAdd, Nat.reduceMul, Nat.reduceEqDiff, Nat.reduceLT, Nat.reduceLeDiff, reduceCtorEq, Bool.false_eq_true, Bool.not_true, Bool.not_false, and_self, Nat.le_refl] <;> rfl) ?_
  refine awp_seq ?_
  refine awp_seq ?_
  -- region 2
  refine awp_run rfl (by simp only [fw0, fw1, fw2, fw3, fw4, fw5, fw6, fw7, ↓reduceIte, Nat.reduceAdd, Nat.reduceMul, Nat.reduceEqDiff, Nat.reduceLT, Nat.reduceLeDiff, reduceCtorEq, Bool.false_eq_true, Bool.not_true, Bool.not_false, and_self, Nat.le_refl, un33] <;> rfl) ?_
  refine awp_cond (by simp only [fw0, fw1, fw2, fw3, fw4, fw5, fw6, fw7, ↓reduceIte, Nat.reduceAdd, Nat.reduceMul, Nat.reduceEqDiff, Nat.reduceLT, Nat.reduceLeDiff, reduceCtorEq, Bool.false_eq_true, Bool.not_true, Bool.not_false, and_self, Nat.le_refl] <;> rfl) ?_
  by_cases hc : l = []
  · subst hc
    simp only [List.length_nil, decide_true, ↓reduceIte]
    refine awp_seq ?_
    -- region 3
    refine awp_run rfl (by simp only [fw0, fw1, fw2, fw3, fw4, fw5, fw6, fw7, ↓reduceIte, Nat.reduceAdd, Nat.reduceMul, Nat.reduceEqDiff, Nat.reduceLT, Nat.reduceLeDiff, reduceCtorEq, Bool.false_eq_true, Bool.not_true, Bool.not_false, and_self, Nat.le_refl, ti29, pl29, Bp_at0, Bp_seta0, ne_eq, Int.reduceEq, not_false_eq_true] <;> rfl) ?_
    refine awp_told (told_leBox H.length (by rw [Bp_at0]; rfl) (leaf_le 1 [] ((byteF L a).1.tmod 4))) ?_
    refine awp_heap (H' := Bp H b (mk5 L (byteF L a).2 I C F) ++ [.box (numT ((byteF L a).1.tmod 4)).enc]) (by rw [Bp_seta0]; rfl) ?_
    refine awp_ret ?_
    simp only [Post.then, reduceCtorEq, ↓reduceIte]
    exact ret_Bp hb (p := .agg (numT ((byteF L a).1.tmod 4)).enc) (.inl rfl) hbd _ (by simp [ares, aresL, ares1, rd, ev, alook, aput, Tryd.f55, ti29, Tm.fw, Bp_at0]) (by simp [PV.bd, Tm.fw]) (hmk _) ⟨by unfold ofF; rw [if_pos rfl], rfl⟩
  have hpos : 0 < l.length := List.length_pos_iff.2 hc
  have hne : ¬ ((l.length : Int) = 0) := by omega
  simp only [hne, decide_false, Bool.false_eq_true, ↓reduceIte]
  refine awp_skip ?_
  have hm0 : 0 ≤ (byteF L a).1.tmod l.length := Int.tmod_nonneg _ hk.1
  have hm1 : (byteF L a).1.tmod l.length < l.length := Int.tmod_lt_of_pos _ (by omega)
  obtain ⟨i, hi⟩ : ∃ i : Nat, (byteF L a).1.tmod l.length = i := ⟨_, (Int.toNat_of_nonneg hm0).symm⟩
  have hil : i < l.length := by omega
  have g : l[i]? = some l[i] := List.getElem?_eq_getElem hil
  have gf : (((l.map S1).flatten).drop (i * 1))[0]? = some (.str l[i]) := by rw [List.getElem?_drop, flat_at1 hil]
  have hof : (ofF L a l).1 = varT l[i] := by
    unfold ofF
    simp only [if_neg hc, hi, Int.toNat_natCast, List.getD_eq_getElem?_getD, g, Option.getD_some]
  refine awp_seq ?_
  -- region 4
  refine awp_region rfl ?_
  refine aops_run 5 (by simp only [fw0, fw1, fw2, fw3, fw4, fw5, fw6, fw7, ↓reduceIte, Nat.reduceAdd, Nat.reduceMul, Nat.reduceEqDiff, Nat.reduceLT, Nat.reduceLeDiff, reduceCtorEq, Bool.false_eq_true, Bool.not_true, Bool.not_false, and_self, Nat.le_refl, un33, hne, hi, ne_eq, not_false_eq_true] <;> rfl) ?_
  refine aops_one rfl (os_index_row (sz := 1) rfl el33 rfl rfl (hrow2 _ _) (by rw [hfl]; omega) (by omega) (by omega) ?_)
  have g0 : (((l.map S1).flatten).drop (0 + (i : Int).toNat * 1))[0]? = some (.str l[i]) := by rw [List.getElem?_drop, Int.toNat_natCast, Nat.zero_add]; exact flat_at1 hil
  refine aops_run 3 (by simp only [fw0, fw1, fw2, fw3, fw4, fw5, fw6, fw7, ↓reduceIte, Nat.reduceAdd, Nat.reduceMul, Nat.reduceEqDiff, Nat.reduceLT, Nat.reduceLeDiff, reduceCtorEq, Bool.false_eq_true, Bool.not_true, Bool.not_false, and_self, Nat.le_refl, hrow2, gf, ti9, ti29, pl29, Bp_at0, Bp_seta0] <;> rfl) ?_
  refine awp_told (told_leBox H.length (by rw [Bp_at0]; rfl) (leaf_le 2 l[i] 0)) ?_
  refine awp_heap (H' := Bp H b (mk5 L (byteF L a).2 I C F) ++ [.box (varT l[i]).enc]) (by rw [Bp_seta0]; rfl) ?_
  refine awp_ret ?_
  exact ret_Bp hb (p := .agg (varT l[i]).enc) (.inl rfl) hbd _ (by simp [ares, aresL, ares1, rd, ev, alook, aput, Tryd.f55, ti29, Tm.fw, Bp_at0]) (by simp [PV.bd, Tm.fw]) (hmk _) ⟨by rw [hof], rfl⟩

/-- Maker.of -/
theorem c55 (Γ : Nat → PV) {H : List Blk} {b : Nat} (hb : b < H.length) {L : List Int} (hL : U8s L) (a : Nat) (p : PV) (l : List (List UInt8)) (hp : NmB H b p l) (I C F : PV) :
    ACalls Tryd.prog Γ 55 [.ptr b 0, p] (Bp H b (mk5 L a I C F)) (fun p H' => p = .agg (ofF L a l).1.enc ∧ H' = Bp H b (mk5 L (ofF L a l).2 I C F)) := by
  rcases hp with rfl | ⟨r, h1, rfl, h2⟩
  · exact c55v Γ hb hL a l I C F
  · exact c55r Γ hb hL a l r h1 h2 I C F

end Go.Proofs.YtnjlfbefpoecpaaDoor

/- A list without a name. -/
namespace Go.Proofs.YtnjlfbefpoecpaaDoor
set_option linter.unusedVariables false
set_option linter.unusedSimpArgs false
set_option maxRecDepth 100000
open Go.RowKit Fw

/-- A list without a name. -/
def lessF (l : List (List UInt8)) (s : List UInt8) : List (List UInt8) := l.filter fun x => decide (x ≠ s)
theorem lessF_len (l : List (List UInt8)) (s : List UInt8) : (lessF l s).length ≤ l.length := List.length_filter_le _ _
theorem lessF_take {l : List (List UInt8)} {s : List UInt8} {i : Nat} (h : i < l.length) : lessF (l.take (i + 1)) s = lessF (l.take i) s ++ (if l[i] = s then [] else [l[i]]) := by
  unfold lessF
  rw [List.take_add_one, List.getElem?_eq_getElem h, List.filter_append]
  by_cases e : l[i] = s <;> simp [e]

/-- less -/
theorem c40v (Γ : Nat → PV) (l : List (List UInt8)) (s : List UInt8) (hl : l.length ≤ 100000) : Gives Tryd.prog Γ 40 [sv l, .str s] (sv (lessF l s)) := by
  refine fn_of_awp Tryd.func40 rfl (by simp [Tryd.f40]) rfl fun H => ?_
  unfold sv
  refine awp_bd fun hbdH => ?_
  refine awp_seq ?_
  -- region 0
  refine awp_run rfl (by simp only [fw0, fw1, fw2, fw3, fw4, fw5, fw6, fw7, ↓reduceIte, Nat.reduceAdd, Nat.reduceMul, Nat.reduceEqDiff, Nat.reduceLT, Nat.reduceLeDiff, reduceCtorEq, Bool.false_eq_true, Bool.not_true, Bool.not_false, and_self, Nat.le_refl] <;> rfl) ?_
  refine awp_seq ?_
  -- region 1
  refine awp_run rfl (by simp only [fw0, fw1, fw2, fw3, fw4, fw5, fw6, fw7, ↓reduceIte, Nat.reduceAdd, Nat.reduceMul, Nat.reduceEqDiff, Nat.reduceLT, Nat.reduceLeDiff, reduceCtorEq, Bool.false_eq_true, Bool.not_true, Bool.not_false, and_self, Nat.le_refl] <;> rfl) ?_
  refine awp_told (told_adopt 5 1 (by decide) rfl) ?_
  refine awp_seq ?_
  refine awp_seq ?_
  -- region 2
  refine awp_run rfl (by simp only [fw0, fw1, fw2, fw3, fw4, fw5, fw6, fw7, ↓reduceIte, Nat.reduceAdd, Nat.reduceMul, Nat.reduceEqDiff, Nat.reduceLT, Nat.reduceLeDiff, reduceCtorEq, Bool.false_eq_true, Bool.not_true, Bool.not_false, and_self, Nat.le_refl] <;> rfl) ?_
  refine awp_block ?_
  refine awp_forG [0, 1, 5, 6] (fun i : Nat => [.vec (l.map fun s => [.str s]) false, .str s, .row H.length 0 (lessF (l.take i) s).length 1, .int .i64 i])
    (fun i => H ++ [.row 1 ((lessF (l.take i) s).map S1).flatten]) (fun i => l.length - i) (fun i => i ≤ l.length) 0 (by simp [alook, aput, ev, lessF]) (by simp [lessF]) (Nat.zero_le _) (fun i _ => ⟨bd_app hbdH (by simp only [List.all_cons, List.all_nil, Blk.bd, Bool.and_true]; exact flat_bd (fun _ => rfl) _), by simp [PV.bdL, PV.bd]⟩) (fun i _ b hb => by cases hb) fun i hi => ?_
  refine awp_seq ?_
  refine awp_seq ?_
  -- region 3
  refine awp_run rfl (by simp only [fw0, fw1, fw2, fw3, fw4, fw5, fw6, fw7, ↓reduceIte, Nat.reduceAdd, Nat.reduceMul, Nat.reduceEqDiff, Nat.reduceLT, Nat.reduceLeDiff, reduceCtorEq, Bool.false_eq_true, Bool.not_true, Bool.not_false, and_self, Nat.le_refl, un33, List.length_map] <;> rfl) ?_
  refine awp_cond (by simp only [fw0, fw1, fw2, fw3, fw4, fw5, fw6, fw7, ↓reduceIte, Nat.reduceAdd, Nat.reduceMul, Nat.reduceEqDiff, Nat.reduceLT, Nat.reduceLeDiff, reduceCtorEq, Bool.false_eq_true, Bool.not_true, Bool.not_false, and_self, Nat.le_refl] <;> rfl) ?_
  by_cases hc : (i : Int) < l.length
  · simp only [hc, decide_true, ↓reduceIte]
    refine awp_skip ?_
    have hil : i < l.length := by omega
    have g : l[i]? = some l[i] := List.getElem?_eq_getElem hil
    have hle := lessF_len (l.take i) s
    rw [List.length_take] at hle
    have ht := lessF_take (s := s) hil
    refine awp_seq ?_
    refine awp_block ?_
    refine awp_seq ?_
    -- region 5
    refine awp_run rfl (by simp only [fw0, fw1, fw2, fw3, fw4, fw5, fw6, fw7, ↓reduceIte, Nat.reduceAdd, Nat.reduceMul, Nat.reduceEqDiff, Nat.reduceLT, Nat.reduceLeDiff, reduceCtorEq, Bool.false_eq_true, Bool.not_true, Bool.not_false, and_self, Nat.le_refl, el33, ti9, List.getElem?_map, g, Option.map_some, Int.natCast_nonneg] <;> rfl) ?_
    refine awp_cond (by simp only [fw0, fw1, fw2, fw3, fw4, fw5, fw6, fw7, ↓reduceIte, Nat.reduceAdd, Nat.reduceMul, Nat.reduceEqDiff, Nat.reduceLT, Nat.reduceLeDiff, reduceCtorEq, Bool.false_eq_true, Bool.not_true, Bool.not_false, and_self, Nat.le_refl] <;> rfl) ?_
    by_cases he : l[i] = s
    · simp only [he, decide_true, Bool.not_true, Bool.false_eq_true, ↓reduceIte]
      refine awp_skip ?_
      rw [if_pos he, List.append_nil] at ht
      -- region 4
      refine awp_run rfl (by simp only [fw0, fw1, fw2, fw3, fw4, fw5, fw6, fw7, ↓reduceIte, Nat.reduceAdd, Nat.reduceMul, Nat.reduceEqDiff, Nat.reduceLT, Nat.reduceLeDiff, reduceCtorEq, Bool.false_eq_true, Bool.not_true, Bool.not_false, and_self, Nat.le_refl, wrapS i (by omega)] <;> rfl) ?_
      refine ⟨i + 1, [], by omega, by omega, by rw [ht]; rfl, by rw [ht, List.append_nil], rfl, by simp⟩
    · simp only [he, decide_false, Bool.not_false, ↓reduceIte]
      rw [if_neg he] at ht
      -- region 6
      refine awp_region rfl ?_
      refine aops_run 6 (by simp only [fw0, fw1, fw2, fw3, fw4, fw5, fw6, fw7, ↓reduceIte, Nat.reduceAdd, Nat.reduceMul, Nat.reduceEqDiff, Nat.reduceLT, Nat.reduceLeDiff, reduceCtorEq, Bool.false_eq_true, Bool.not_true, Bool.not_false, and_self, Nat.le_refl, el33, ti9, un33, List.getElem?_map, g, Option.map_some, Int.natCast_nonneg] <;> rfl) ?_
      refine aops_one rfl (os_appendR rfl un33 ti9 un33 (.inl ⟨_, rfl⟩) rfl (by simp only [fw0, fw1, fw2, fw3, fw4, fw5, fw6, fw7, ↓reduceIte, Nat.reduceAdd, Nat.reduceMul, Nat.reduceEqDiff, Nat.reduceLT, Nat.reduceLeDiff, reduceCtorEq, Bool.false_eq_true, Bool.not_true, Bool.not_false, and_self, Nat.le_refl] <;> rfl) (by rw [flat_len S1_len]; simp) rfl (fun es f h e he => by
        simp only [fw0, fw1, fw2, fw3, fw4, fw5, fw6, fw7, ↓reduceIte, Nat.reduceAdd, Nat.reduceMul, Nat.reduceEqDiff, Nat.reduceLT, Nat.reduceLeDiff, reduceCtorEq, Bool.false_eq_true, Bool.not_true, Bool.not_false, and_self, Nat.le_refl, PV.vec.injEq] at h
        obtain ⟨rfl, rfl⟩ := h
        simp only [List.mem_singleton] at he
        subst he; rfl) rfl (by show ((lessF (l.take i) s).length + 1) * 16 ≤ _; omega) (by show (lessF (l.take i) s).length + 1 ≤ _; omega) ?_)
      refine aops_run 1 (by simp only [fw0, fw1, fw2, fw3, fw4, fw5, fw6, fw7, ↓reduceIte, Nat.reduceAdd, Nat.reduceMul, Nat.reduceEqDiff, Nat.reduceLT, Nat.reduceLeDiff, reduceCtorEq, Bool.false_eq_true, Bool.not_true, Bool.not_false, and_self, Nat.le_refl] <;> rfl) ?_
      -- region 4
      refine awp_run rfl (by simp only [fw0, fw1, fw2, fw3, fw4, fw5, fw6, fw7, ↓reduceIte, Nat.reduceAdd, Nat.reduceMul, Nat.reduceEqDiff, Nat.reduceLT, Nat.reduceLeDiff, reduceCtorEq, Bool.false_eq_true, Bool.not_true, Bool.not_false, and_self, Nat.le_refl, wrapS i (by omega)] <;> rfl) ?_
      refine ⟨i + 1, [], by omega, by omega, by rw [ht, List.length_append]; rfl, by rw [ht, List.append_nil]; simp [S1], rfl, by simp⟩
  simp only [hc, decide_false, Bool.false_eq_true, ↓reduceIte]
  refine awp_exit ?_
  have hie : i = l.length := by omega
  subst hie
  rw [List.take_length]
  simp only [Post.block, Post.then, ↓reduceIte]
  refine awp_told (told_freezeAt H _ 0 (C := ((lessF l s).map S1).flatten) rfl (flat_bd (fun _ => rfl) _)) ?_
  have hlf : (((lessF l s).map S1).flatten).length = (lessF l s).length * 1 := flat_len S1_len _
  have hch : chunk 1 (lessF l s).length (((lessF l s).map S1).flatten) = (lessF l s).map S1 := flat_chunk S1_len _
  refine awp_seq ?_
  -- region 7
  refine awp_run rfl (by simp only [fw0, fw1, fw2, fw3, fw4, fw5, fw6, fw7, ↓reduceIte, Nat.reduceAdd, Nat.reduceMul, Nat.reduceEqDiff, Nat.reduceLT, Nat.reduceLeDiff, reduceCtorEq, Bool.false_eq_true, Bool.not_true, Bool.not_false, and_self, Nat.le_refl] <;> rfl) ?_
  refine awp_ret ?_
  refine gives_end (.inl rfl) _ ?_
  simp [ares, aresL, ares1, rd, ev, alook, aput, Tryd.f40, frz, hlf, hch, S1]

/-- less, of one's own row -/
theorem c40r (Γ : Nat → PV) (l : List (List UInt8)) (s : List UInt8) (hl : l.length ≤ 100000) (H : List Blk) (r : Nat) (hrow : H[r]? = some (.row 1 ((l.map S1).flatten))) : ACalls Tryd.prog Γ 40 [.row r 0 l.length 1, .str s] H (fun p H' => p = sv (lessF l s) ∧ H' = H) := by
  refine acalls_of_awp Tryd.func40 rfl (by simp [Tryd.f40]) fun hbdH => ?_
  unfold sv
  have hrow2 : ∀ L, (H ++ L)[r]? = some (.row 1 ((l.map S1).flatten)) := fun L => by
    rw [List.getElem?_append_left (List.getElem?_eq_some_iff.1 hrow).1]; exact hrow
  have hfl : ((l.map S1).flatten).length = l.length * 1 := flat_len S1_len _
  have hrH := (List.getElem?_eq_some_iff.1 hrow).1
  refine awp_seq ?_
  -- region 0
  refine awp_run rfl (by simp only [fw0, fw1, fw2, fw3, fw4, fw5, fw6, fw7, ↓reduceIte, Nat.reduceAdd, Nat.reduceMul, Nat.reduceEqDiff, Nat.reduceLT, Nat.reduceLeDiff, reduceCtorEq, Bool.false_eq_true, Bool.not_true, Bool.not_false, and_self, Nat.le_refl] <;> rfl) ?_
  refine awp_seq ?_
  -- region 1
  refine awp_run rfl (by simp only [fw0, fw1, fw2, fw3, fw4, fw5, fw6, fw7, ↓reduceIte, Nat.reduceAdd, Nat.reduceMul, Nat.reduceEqDiff, Nat.reduceLT, Nat.reduceLeDiff, reduceCtorEq, Bool.false_eq_true, Bool.not_true, Bool.not_false, and_self, Nat.le_refl] <;> rfl) ?_
  refine awp_told (told_adopt 5 1 (by decide) rfl) ?_
  refine awp_seq ?_
  refine awp_seq ?_
  -- region 2
  refine awp_run rfl (by simp only [fw0, fw1, fw2, fw3, fw4, fw5, fw6, fw7, ↓reduceIte, Nat.reduceAdd, Nat.reduceMul, Nat.reduceEqDiff, Nat.reduceLT, Nat.reduceLeDiff, reduceCtorEq, Bool.false_eq_true, Bool.not_true, Bool.not_false, and_self, Nat.le_refl] <;> rfl) ?_
  refine awp_block ?_
  refine awp_forG [0, 1, 5, 6] (fun i : Nat => [.row r 0 l.length 1, .str s, .row H.length 0 (lessF (l.take i) s).length 1, .int .i64 i])
    (fun i => H ++ [.row 1 ((lessF (l.take i) s).map S1).flatten]) (fun i => l.length - i) (fun i => i ≤ l.length) 0 (by simp [alook, aput, ev, lessF]) (by simp [lessF]) (Nat.zero_le _) (fun i _ => ⟨bd_app hbdH (by simp only [List.all_cons, List.all_nil, Blk.bd, Bool.and_true]; exact flat_bd (fun _ => rfl) _), by simp [PV.bdL, PV.bd]; omega⟩) (fun i _ b hb => by cases hb) fun i hi => ?_
  refine awp_seq ?_
  refine awp_seq ?_
  -- region 3
  refine awp_run rfl (by simp only [fw0, fw1, fw2, fw3, fw4, fw5, fw6, fw7, ↓reduceIte, Nat.reduceAdd, Nat.reduceMul, Nat.reduceEqDiff, Nat.reduceLT, Nat.reduceLeDiff, reduceCtorEq, Bool.false_eq_true, Bool.not_true, Bool.not_false, and_self, Nat.le_refl, un33] <;> rfl) ?_
  refine awp_cond (by simp only [fw0, fw1, fw2, fw3, fw4, fw5, fw6, fw7, ↓reduceIte, Nat.reduceAdd, Nat.reduceMul, Nat.reduceEqDiff, Nat.reduceLT, Nat.reduceLeDiff, reduceCtorEq, Bool.false_eq_true, Bool.not_true, Bool.not_false, and_self, Nat.le_refl] <;> rfl) ?_
  by_cases hc : (i : Int) < l.length
  · simp only [hc, decide_true, ↓reduceIte]
    refine awp_skip ?_
    have hil : i < l.length := by omega
    have gf : (((l.map S1).flatten).drop (i * 1))[0]? = some (.str l[i]) := by rw [List.getElem?_drop, flat_at1 hil]
    have hle := lessF_len (l.take i) s
    rw [List.length_take] at hle
    have ht := lessF_take (s := s) hil
    refine awp_seq ?_
    refine awp_block ?_
    refine awp_seq ?_
    -- region 5
    have g0 : (((l.map S1).flatten).drop (0 + (i : Int).toNat * 1))[0]? = some (.str l[i]) := by rw [List.getElem?_drop, Int.toNat_natCast, Nat.zero_add]; exact flat_at1 hil
    refine awp_region rfl ?_
    refine aops_run 2 (by simp only [fw0, fw1, fw2, fw3, fw4, fw5, fw6, fw7, ↓reduceIte, Nat.reduceAdd, Nat.reduceMul, Nat.reduceEqDiff, Nat.reduceLT, Nat.reduceLeDiff, reduceCtorEq, Bool.false_eq_true, Bool.not_true, Bool.not_false, and_self, Nat.le_refl] <;> rfl) ?_
    refine aops_one rfl (os_index_row (sz := 1) rfl el33 rfl rfl (hrow2 _) (by rw [hfl]; omega) (by omega) (by omega) ?_)
    refine aops_run 3 (by simp only [fw0, fw1, fw2, fw3, fw4, fw5, fw6, fw7, ↓reduceIte, Nat.reduceAdd, Nat.reduceMul, Nat.reduceEqDiff, Nat.reduceLT, Nat.reduceLeDiff, reduceCtorEq, Bool.false_eq_true, Bool.not_true, Bool.not_false, and_self, Nat.le_refl, hrow2, gf, ti9] <;> rfl) ?_
    refine awp_cond (by simp only [fw0, fw1, fw2, fw3, fw4, fw5, fw6, fw7, ↓reduceIte, Nat.reduceAdd, Nat.reduceMul, Nat.reduceEqDiff, Nat.reduceLT, Nat.reduceLeDiff, reduceCtorEq, Bool.false_eq_true, Bool.not_true, Bool.not_false, and_self, Nat.le_refl] <;> rfl) ?_
    by_cases he : l[i] = s
    · simp only [he, decide_true, Bool.not_true, Bool.false_eq_true, ↓reduceIte]
      refine awp_skip ?_
      rw [if_pos he, List.append_nil] at ht
      -- region 4
      refine awp_run rfl (by simp only [fw0, fw1, fw2, fw3, fw4, fw5, fw6, fw7, ↓reduceIte, Nat.reduceAdd, Nat.reduceMul, Nat.reduceEqDiff, Nat.reduceLT, Nat.reduceLeDiff, reduceCtorEq, Bool.false_eq_true, Bool.not_true, Bool.not_false, and_self, Nat.le_refl, wrapS i (by omega)] <;> rfl) ?_
      refine ⟨i + 1, [], by omega, by omega, by rw [ht]; rfl, by rw [ht, List.append_nil], rfl, by simp⟩
    · simp only [he, decide_false, Bool.not_false, ↓reduceIte]
      rw [if_neg he] at ht
      -- region 6
      refine awp_region rfl ?_
      refine aops_run 3 (by simp only [fw0, fw1, fw2, fw3, fw4, fw5, fw6, fw7, ↓reduceIte, Nat.reduceAdd, Nat.reduceMul, Nat.reduceEqDiff, Nat.reduceLT, Nat.reduceLeDiff, reduceCtorEq, Bool.false_eq_true, Bool.not_true, Bool.not_false, and_self, Nat.le_refl] <;> rfl) ?_
      refine aops_one rfl (os_index_row (sz := 1) rfl el33 rfl rfl (hrow2 _) (by rw [hfl]; omega) (by omega) (by omega) ?_)
      refine aops_run 2 (by simp only [fw0, fw1, fw2, fw3, fw4, fw5, fw6, fw7, ↓reduceIte, Nat.reduceAdd, Nat.reduceMul, Nat.reduceEqDiff, Nat.reduceLT, Nat.reduceLeDiff, reduceCtorEq, Bool.false_eq_true, Bool.not_true, Bool.not_false, and_self, Nat.le_refl, hrow2, gf, ti9, un33] <;> rfl) ?_
      refine aops_one rfl (os_appendR rfl un33 ti9 un33 (.inl ⟨_, rfl⟩) rfl (by simp only [fw0, fw1, fw2, fw3, fw4, fw5, fw6, fw7, ↓reduceIte, Nat.reduceAdd, Nat.reduceMul, Nat.reduceEqDiff, Nat.reduceLT, Nat.reduceLeDiff, reduceCtorEq, Bool.false_eq_true, Bool.not_true, Bool.not_false, and_self, Nat.le_refl] <;> rfl) (by rw [flat_len S1_len]; simp) rfl (fun es f h e he => by
        simp only [fw0, fw1, fw2, fw3, fw4, fw5, fw6, fw7, ↓reduceIte, Nat.reduceAdd, Nat.reduceMul, Nat.reduceEqDiff, Nat.reduceLT, Nat.reduceLeDiff, reduceCtorEq, Bool.false_eq_true, Bool.not_true, Bool.not_false, and_self, Nat.le_refl, PV.vec.injEq] at h
        obtain ⟨rfl, rfl⟩ := h
        simp only [List.mem_singleton] at he
        subst he; rfl) rfl (by show ((lessF (l.take i) s).length + 1) * 16 ≤ _; omega) (by show (lessF (l.take i) s).length + 1 ≤ _; omega) ?_)
      refine aops_run 1 (by simp only [fw0, fw1, fw2, fw3, fw4, fw5, fw6, fw7, ↓reduceIte, Nat.reduceAdd, Nat.reduceMul, Nat.reduceEqDiff, Nat.reduceLT, Nat.reduceLeDiff, reduceCtorEq, Bool.false_eq_true, Bool.not_true, Bool.not_false, and_self, Nat.le_refl] <;> rfl) ?_
      -- region 4
      refine awp_run rfl (by simp only [fw0, fw1, fw2, fw3, fw4, fw5, fw6, fw7, ↓reduceIte, Nat.reduceAdd, Nat.reduceMul, Nat.reduceEqDiff, Nat.reduceLT, Nat.reduceLeDiff, reduceCtorEq, Bool.false_eq_true, Bool.not_true, Bool.not_false, and_self, Nat.le_refl, wrapS i (by omega)] <;> rfl) ?_
      refine ⟨i + 1, [], by omega, by omega, by rw [ht, List.length_append]; rfl, by rw [ht, List.append_nil]; simp [S1], rfl, by simp⟩
  simp only [hc, decide_false, Bool.false_eq_true, ↓reduceIte]
  refine awp_exit ?_
  have hie : i = l.length := by omega
  subst hie
  rw [List.take_length]
  simp only [Post.block, Post.then, ↓reduceIte]
  refine awp_told (told_freezeAt H _ 0 (C := ((lessF l s).map S1).flatten) rfl (flat_bd (fun _ => rfl) _)) ?_
  have hlf : (((lessF l s).map S1).flatten).length = (lessF l s).length * 1 := flat_len S1_len _
  have hch : chunk 1 (lessF l s).length (((lessF l s).map S1).flatten) = (lessF l s).map S1 := flat_chunk S1_len _
  refine awp_seq ?_
  -- region 7
  refine awp_run rfl (by simp only [fw0, fw1, fw2, fw3, fw4, fw5, fw6, fw7, ↓reduceIte, Nat.reduceAdd, Nat.reduceMul, Nat.reduceEqDiff, Nat.reduceLT, Nat.reduceLeDiff, reduceCtorEq, Bool.false_eq_true, Bool.not_true, Bool.not_false, and_self, Nat.le_refl] <;> rfl) ?_
  refine awp_ret ?_
  refine calls_end _ (.inl rfl) hbdH ?_ rfl ⟨rfl, rfl⟩
  simp [ares, aresL, ares1, rd, ev, alook, aput, Tryd.f40, frz, hlf, hch, S1]

/-- less -/
theorem c40 (Γ : Nat → PV) (l : List (List UInt8)) (s : List UInt8) (hl : l.length ≤ 100000) (H : List Blk) (p : PV) (hp : Nm H p l) : ACalls Tryd.prog Γ 40 [p, .str s] H (fun p H' => p = sv (lessF l s) ∧ H' = H) := by
  rcases hp with rfl | ⟨r, rfl, h2⟩
  · exact c40v Γ l s hl H
  · exact c40r Γ l s hl H r h2

end Go.Proofs.YtnjlfbefpoecpaaDoor

/- What is made of bytes: plain; the contract of a term; a function of a number. -/
namespace Go.Proofs.YtnjlfbefpoecpaaDoor
set_option linter.unusedVariables false
set_option linter.unusedSimpArgs false
set_option maxRecDepth 100000
open Go.RowKit Fw

abbrev Names := List (List UInt8)
/-- One of three names. -/
def pick3 (L : List Int) (a : Nat) : List UInt8 × Nat := (([[117], [118], [119]] : Names).getD ((byteF L a).1.tmod 3).toNat [], (byteF L a).2)
abbrev WF := Int → Nat → Names → Names → Tm × Nat
def funF (L : List Int) (W : WF) : WF := fun d a I F =>
  let x := pick3 L a
  let t := W (d - 1) x.2 (I ++ [x.1]) (lessF F x.1)
  (oneT 3 x.1 t.1, t.2)
def letF (L : List Int) (W : WF) : WF := fun d a I F =>
  let x := pick3 L a
  let k := byteF L x.2
  if k.1.tmod 2 = 0 then
    let p := W (d - 1) k.2 I F
    let q := W (d - 1) p.2 (I ++ [x.1]) (lessF F x.1)
    (twoT 5 x.1 p.1 q.1, q.2)
  else
    let p := funF L W (d - 1) k.2 I F
    let q := W (d - 1) p.2 (lessF I x.1) (F ++ [x.1])
    (twoT 5 x.1 p.1 q.1, q.2)
def tryF (L : List Int) (W : WF) : WF := fun d a I F =>
  let p := W (d - 1) a I F
  let x := pick3 L p.2
  let q := W (d - 1) x.2 (I ++ [x.1]) (lessF F x.1)
  (twoT 9 x.1 p.1 q.1, q.2)
def opsL : Names := [[43], [45], [42], [60], [61]]

/-- A term of a number. -/
def wholeF (L : List Int) (C : Names) : Nat → WF
  | 0 => fun _ a _ _ => (zeroT, a)
  | n + 1 => fun d a0 I F =>
    let W := wholeF L C n
    let k0 := byteF L a0
    let a := k0.2
    let k := if d ≤ 0 ∨ L.length ≤ a then (k0.1.tmod 20).tmod 4 else k0.1.tmod 20
    if k = 0 then
      let j := byteF L a
      (numT (j.1.tmod 5), j.2)
    else if k < 4 then ofF L a I
    else if k < 6 then
      let j := byteF L a
      let p := W (d - 1) j.2 I F
      let q := W (d - 1) p.2 I F
      (twoT 12 (opsL.getD (j.1.tmod 5).toNat []) p.1 q.1, q.2)
    else if k = 6 ∨ k = 7 then
      let p := W (d - 1) a I F
      let q := W (d - 1) p.2 I F
      let r := W (d - 1) q.2 I F
      (ifT p.1 q.1 r.1, r.2)
    else if k < 10 then letF L W d a I F
    else if k = 10 ∧ 0 < C.length then
      let p := ofF L a C
      (oneT 10 [] p.1, p.2)
    else if k < 13 ∧ 0 < C.length then
      let p := ofF L a C
      let q := W (d - 1) p.2 I F
      (twoT 11 [] p.1 q.1, q.2)
    else if k < 15 then
      let p := W (d - 1) a I F
      let q := W (d - 1) p.2 I F
      (twoT 13 [] p.1 q.1, q.2)
    else if k = 15 then
      let p := W (d - 1) a I F
      (oneT 8 [] p.1, p.2)
    else if k = 16 then tryF L W d a I F
    else if k < 19 ∧ 0 < F.length then
      let p := ofF L a F
      let q := W (d - 1) p.2 I F
      (twoT 4 [] p.1 q.1, q.2)
    else if k = 19 ∧ (byteF L a).1.tmod 4 = 0 then
      let p := W (d - 1) (byteF L a).2 I F
      let q := W (d - 1) p.2 I F
      (twoT 7 [] p.1 q.1, q.2)
    else
      let p := funF L W (d - 1) (if k = 19 then (byteF L a).2 else a) I F
      let q := W (d - 1) p.2 I F
      (twoT 4 [] p.1 q.1, q.2)

/-- The contract of what makes a term. -/
def MkC (Γ : Nat → PV) (fn : Nat) (L : List Int) (C : Names) (ok : Int → Prop) (W : WF) : Prop := ∀ (H : List Blk) (b a : Nat) (I F : Names) (d : Int) (ff : PV), b < H.length → NmB H b ff F → ok d → -10 ≤ d → d ≤ 100 → I.length + (d + 1).toNat ≤ 1000 → F.length + (d + 1).toNat ≤ 1000 →
  ACalls Tryd.prog Γ fn [.ptr b 0, .int .i64 d] (Bp H b (mk5 L a (sv I) (sv C) ff)) (fun p H' => p = .agg (W d a I F).1.enc ∧ H' = Bp H b (mk5 L (W d a I F).2 (sv I) (sv C) ff))

theorem MkC.at {Γ : Nat → PV} {fn : Nat} {L : List Int} {C : Names} {ok : Int → Prop} {W : WF} (h : MkC Γ fn L C ok W) {H : List Blk} {b : Nat} (hb : b < H.length) (Ls : List Blk) (a : Nat) (I F : Names) (d : Int) {ff : PV} (hN : NmB H b ff F) (h1 : ok d) (h2 : -10 ≤ d) (h3 : d ≤ 100) (h4 : I.length + (d + 1).toNat ≤ 1000) (h5 : F.length + (d + 1).toNat ≤ 1000) :
    ACalls Tryd.prog Γ fn [.ptr b 0, .int .i64 d] (Bp H b (mk5 L a (sv I) (sv C) ff) ++ Ls) (fun p H' => p = .agg (W d a I F).1.enc ∧ H' = Bp H b (mk5 L (W d a I F).2 (sv I) (sv C) ff) ++ Ls) := by
  have := h (H ++ Ls) b a I F d ff (by rw [List.length_append]; omega) (hN.app Ls) h1 h2 h3 h4 h5
  rw [Bp_app hb] at this
  exact this.mono fun p H' hq => ⟨hq.1, by rw [hq.2, Bp_app hb]⟩

theorem c33at (Γ : Nat → PV) {H : List Blk} {b : Nat} (hb : b < H.length) {L : List Int} (hL : U8s L) (Ls : List Blk) (a : Nat) (I C F : PV) :
    ACalls Tryd.prog Γ 33 [.ptr b 0] (Bp H b (mk5 L a I C F) ++ Ls) (fun p H' => p = .int .i64 (byteF L a).1 ∧ H' = Bp H b (mk5 L (byteF L a).2 I C F) ++ Ls) := by
  have := c33 Γ (H := H ++ Ls) (b := b) (by rw [List.length_append]; omega) hL a I C F
  rw [Bp_app hb] at this
  exact this.mono fun p H' hq => ⟨hq.1, by rw [hq.2, Bp_app hb]⟩
theorem c55at (Γ : Nat → PV) {H : List Blk} {b : Nat} (hb : b < H.length) {L : List Int} (hL : U8s L) (Ls : List Blk) (a : Nat) {p : PV} (l : Names) (hp : NmB H b p l) (I C F : PV) :
    ACalls Tryd.prog Γ 55 [.ptr b 0, p] (Bp H b (mk5 L a I C F) ++ Ls) (fun p H' => p = .agg (ofF L a l).1.enc ∧ H' = Bp H b (mk5 L (ofF L a l).2 I C F) ++ Ls) := by
  have := c55 Γ (H := H ++ Ls) (b := b) (by rw [List.length_append]; omega) hL a p l (hp.app Ls) I C F
  rw [Bp_app hb] at this
  exact this.mono fun p H' hq => ⟨hq.1, by rw [hq.2, Bp_app hb]⟩

/-- A row that stands in one box alone is ended. -/
theorem told_mk {Γ : Nat → PV} {A : List (Nat × PV)} {H : List Blk} {b : Nat} (hb : b < H.length) {cs cs' : List PV} {L : List Blk} (j : Nat) {sz : Nat} {X : List PV} (hj : L[j]? = some (.row sz X)) (hp : PV.plainL X = true) (hcs : cs.map (frz (H.length + j) sz X) = cs') (hA : A.map (fun kp => (kp.1, frz (H.length + j) sz X kp.2)) = A) :
    Fw.Told Γ A (Bp H b cs ++ L) A (Bp H b cs' ++ L.set j .dead) := by
  have := told_freezeR (Γ := Γ) (A := A) (H := Bp H b cs ++ L) (H.length + j) (sz := sz) (C := X) (H2 := Bp H b cs' ++ L.set j .dead) (by rw [Bp_at]; exact hj) hp (by simp [Bp_len]) (fun k B hB => by
    rw [Bp_seta]
    by_cases hk : k = b
    · subst hk
      rw [Bp_get hb] at hB ⊢
      cases hB
      exact ⟨_, rfl, .inr (by show Blk.box cs' = Blk.box _; rw [hcs])⟩
    · refine ⟨B, ?_, .inl rfl⟩
      by_cases h : k < H.length
      · rw [List.getElem?_append_left (by rw [Bp_len]; exact h)] at hB ⊢
        unfold Bp at hB ⊢
        rw [List.getElem?_set_ne (Ne.symm hk)] at hB ⊢
        exact hB
      · rw [List.getElem?_append_right (by rw [Bp_len]; omega)] at hB ⊢
        rw [Bp_len] at hB ⊢
        exact hB)
  rwa [hA] at this

theorem sv_fw : (∀ l, (sv l).shaped = true) ∧ (∀ l, (sv l).cells = [sv l]) := ⟨fun _ => rfl, fun _ => rfl⟩
theorem NmB.one {H : List Blk} {b : Nat} {p : PV} {l : Names} (h : NmB H b p l) : p.shaped = true ∧ p.cells = [p] := by
  rcases h with rfl | ⟨q, _, rfl, _⟩ <;> exact ⟨rfl, rfl⟩
theorem NmB.frz {H : List Blk} {b : Nat} {p : PV} {l : Names} (h : NmB H b p l) (j k : Nat) (X : List PV) : Fw.frz (H.length + j) k X p = p := by
  rcases h with rfl | ⟨q, _, rfl, h2⟩
  · rfl
  · have := (List.getElem?_eq_some_iff.1 h2).1
    unfold Fw.frz
    dsimp only
    rw [if_neg (fun h => by omega)]

end Go.Proofs.YtnjlfbefpoecpaaDoor

/- The contract of what makes a function of a number. -/
namespace Go.Proofs.YtnjlfbefpoecpaaDoor
set_option linter.unusedVariables false
set_option linter.unusedSimpArgs false
set_option maxRecDepth 100000
open Go.RowKit Fw

theorem pick_at {L : List Int} (hL : U8s L) (a : Nat) : ∃ i : Nat, i < 3 ∧ (byteF L a).1.tmod 3 = i ∧ ([[.str [117]], [.str [118]], [.str [119]]] : List (List PV))[i]? = some [.str (pick3 L a).1] := by
  have hk := byteF_range hL a
  have hm0 : 0 ≤ (byteF L a).1.tmod 3 := Int.tmod_nonneg _ hk.1
  have hm1 : (byteF L a).1.tmod 3 < 3 := Int.tmod_lt_of_pos _ (by omega)
  obtain ⟨i, hi⟩ : ∃ i : Nat, (byteF L a).1.tmod 3 = i := ⟨_, (Int.toNat_of_nonneg hm0).symm⟩
  refine ⟨i, by omega, hi, ?_⟩
  unfold pick3
  rw [hi, Int.toNat_natCast]
  have : i = 0 ∨ i = 1 ∨ i = 2 := by omega
  rcases this with rfl | rfl | rfl <;> rfl

theorem frz_row {b k sz : Nat} {X : List PV} (h : X.length = k * sz) : frz b sz X (.row b 0 k sz) = .vec (chunk sz k X) false := by
  unfold frz
  dsimp only
  rw [if_pos ⟨rfl, rfl, by omega⟩, List.drop_zero]
theorem frz_sv (b : Nat) (l : Names) : frz b 1 ((l.map S1).flatten) (.row b 0 l.length 1) = sv l := by
  rw [frz_row (flat_len S1_len _), flat_chunk S1_len]; rfl

def zT : List PV := [.int .i64 0, .str [], .int .i64 0, .vec [] true]

/-- Maker.fun -/
theorem c18 (Γ : Nat → PV) {L : List Int} (hL : U8s L) {C : Names} {W : WF} {n : Nat} (hW : MkC Γ 34 L C (fun d => d.toNat < n) W) : MkC Γ 18 L C (fun d => 0 ≤ d ∧ (d - 1).toNat < n) (funF L W) := by
  intro H b a I F d ff hb hN ⟨hd0, hdn⟩ hd1 hd2 hIl hFl
  refine acalls_of_awp Tryd.func18 rfl (by simp [Tryd.f18]) fun hbd => ?_
  have hmk := mk5_bd hb hbd
  have hff := fun j X => hN.frz j 1 X
  have hone := hN.one
  refine awp_seq ?_
  -- region 0
  refine awp_run rfl (by simp only [fw0, fw1, fw2, fw3, fw4, fw5, fw6, fw7, ↓reduceIte, Nat.reduceAdd, Nat.reduceMul, Nat.reduceEqDiff, Nat.reduceLT, Nat.reduceLeDiff, reduceCtorEq, Bool.false_eq_true, Bool.not_true, Bool.not_false, and_self, Nat.le_refl, ti29, Bp_len] <;> rfl) ?_
  refine awp_seq ?_
  -- region 1
  refine awp_region rfl ?_
  refine aops_run 2 (by simp only [fw0, fw1, fw2, fw3, fw4, fw5, fw6, fw7, ↓reduceIte, Nat.reduceAdd, Nat.reduceMul, Nat.reduceEqDiff, Nat.reduceLT, Nat.reduceLeDiff, reduceCtorEq, Bool.false_eq_true, Bool.not_true, Bool.not_false, and_self, Nat.le_refl, un33, ti9] <;> rfl) ?_
  refine aops_call rfl rfl rfl en33 ((c33at Γ hb hL [.box zT] a (sv I) (sv C) ff).mono fun p H' hp => ?_)
  obtain ⟨rfl, rfl⟩ := hp
  obtain ⟨i, hi, him, hg⟩ := pick_at hL a
  have hx2 : (byteF L a).2 = (pick3 L a).2 := rfl
  rw [hx2]
  have hfun : funF L W d a I F = (oneT 3 (pick3 L a).1 (W (d - 1) (pick3 L a).2 (I ++ [(pick3 L a).1]) (lessF F (pick3 L a).1)).1, (W (d - 1) (pick3 L a).2 (I ++ [(pick3 L a).1]) (lessF F (pick3 L a).1)).2) := rfl
  rw [hfun]
  refine aops_run 4 (by simp only [fw0, fw1, fw2, fw3, fw4, fw5, fw6, fw7, ↓reduceIte, Nat.reduceAdd, Nat.reduceMul, Nat.reduceEqDiff, Nat.reduceLT, Nat.reduceLeDiff, reduceCtorEq, Bool.false_eq_true, Bool.not_true, Bool.not_false, and_self, Nat.le_refl, el33, ti9, ne_eq, Int.reduceEq, not_false_eq_true, him, hg, Int.natCast_nonneg, Int.toNat_natCast] <;> rfl) ?_
  generalize pick3 L a = x
  obtain ⟨x, a1⟩ := x
  dsimp only
  refine awp_seq ?_
  -- region 2
  refine awp_run rfl (by simp only [fw0, fw1, fw2, fw3, fw4, fw5, fw6, fw7, ↓reduceIte, Nat.reduceAdd, Nat.reduceMul, Nat.reduceEqDiff, Nat.reduceLT, Nat.reduceLeDiff, reduceCtorEq, Bool.false_eq_true, Bool.not_true, Bool.not_false, and_self, Nat.le_refl, fl59_2, ti33, Bp_get hb, mk5_fw] <;> rfl) ?_
  refine awp_seq ?_
  -- region 3
  refine awp_run rfl (by simp only [fw0, fw1, fw2, fw3, fw4, fw5, fw6, fw7, ↓reduceIte, Nat.reduceAdd, Nat.reduceMul, Nat.reduceEqDiff, Nat.reduceLT, Nat.reduceLeDiff, reduceCtorEq, Bool.false_eq_true, Bool.not_true, Bool.not_false, and_self, Nat.le_refl, fl59_4, ti33, Bp_get hb, mk5_fw] <;> rfl) ?_
  refine awp_keep (A' := [(0, .ptr b 0), (1, .int .i64 d), (4, .ptr H.length 0), (5, .str x), (6, sv I), (7, ff)]) [0, 1, 4, 5, 6, 7] rfl ?_
  refine awp_seq ?_
  -- region 4
  refine awp_region rfl ?_
  refine aops_run 2 (by simp only [fw0, fw1, fw2, fw3, fw4, fw5, fw6, fw7, ↓reduceIte, Nat.reduceAdd, Nat.reduceMul, Nat.reduceEqDiff, Nat.reduceLT, Nat.reduceLeDiff, reduceCtorEq, Bool.false_eq_true, Bool.not_true, Bool.not_false, and_self, Nat.le_refl] <;> rfl) ?_
  refine aops_one rfl (os_appendNew rfl un33 ti9 un33 (.inl ⟨_, rfl⟩) (by decide) rfl rfl (fun es f h e he => by
    simp only [fw0, fw1, fw2, fw3, fw4, fw5, fw6, fw7, ↓reduceIte, Nat.reduceAdd, Nat.reduceMul, Nat.reduceEqDiff, Nat.reduceLT, Nat.reduceLeDiff, reduceCtorEq, Bool.false_eq_true, Bool.not_true, Bool.not_false, and_self, Nat.le_refl, PV.vec.injEq, sv] at h
    obtain ⟨rfl, rfl⟩ := h
    obtain ⟨y, _, rfl⟩ := List.mem_map.1 he
    rfl) rfl (by rw [List.length_map]; show I.length * 16 ≤ _; omega) (by rw [List.length_map]; omega) ?_)
  refine aops_run 2 (by simp only [fw0, fw1, fw2, fw3, fw4, fw5, fw6, fw7, ↓reduceIte, Nat.reduceAdd, Nat.reduceMul, Nat.reduceEqDiff, Nat.reduceLT, Nat.reduceLeDiff, reduceCtorEq, Bool.false_eq_true, Bool.not_true, Bool.not_false, and_self, Nat.le_refl, un33, ti9, Bp_len] <;> rfl) ?_
  refine aops_one rfl (os_appendR (cs := (I.map S1).flatten) (q := 0) (k := I.length) (b := H.length + 1) rfl un33 ti9 un33 (.inl ⟨_, rfl⟩) (by simp [ev, alook, aput, Bp_len]) (by rw [Bp_at]; rfl) (by rw [flat_len S1_len]; simp) (by simp only [fw0, fw1, fw2, fw3, fw4, fw5, fw6, fw7, ↓reduceIte, Nat.reduceAdd, Nat.reduceMul, Nat.reduceEqDiff, Nat.reduceLT, Nat.reduceLeDiff, reduceCtorEq, Bool.false_eq_true, Bool.not_true, Bool.not_false, and_self, Nat.le_refl] <;> rfl) (fun es f h e he => by
    simp only [fw0, fw1, fw2, fw3, fw4, fw5, fw6, fw7, ↓reduceIte, Nat.reduceAdd, Nat.reduceMul, Nat.reduceEqDiff, Nat.reduceLT, Nat.reduceLeDiff, reduceCtorEq, Bool.false_eq_true, Bool.not_true, Bool.not_false, and_self, Nat.le_refl, PV.vec.injEq] at h
    obtain ⟨rfl, rfl⟩ := h
    simp only [List.mem_singleton] at he
    subst he; rfl) rfl (by show (I.length + 1) * 16 ≤ _; omega) (by show I.length + 1 ≤ _; omega) ?_)
  refine aops_run 3 (by simp only [fw0, fw1, fw2, fw3, fw4, fw5, fw6, fw7, ↓reduceIte, Nat.reduceAdd, Nat.reduceMul, Nat.reduceEqDiff, Nat.reduceLT, Nat.reduceLeDiff, reduceCtorEq, Bool.false_eq_true, Bool.not_true, Bool.not_false, and_self, Nat.le_refl, fl59_2, ti33, Bp_seta, Bp_get hb, Bp_set hb, mk5_fw, mk5] <;> rfl) ?_
  have hxs : (I.map S1).flatten ++ [PV.str x] = ((I ++ [x]).map S1).flatten := by simp [S1]
  refine awp_keep (A' := [(0, .ptr b 0), (1, .int .i64 d), (4, .ptr H.length 0), (5, .str x), (6, sv I), (7, ff)]) [0, 1, 4, 5, 6, 7] rfl ?_
  refine awp_heap (H' := Bp H b (mk5 L a1 (.row (H.length + 1) 0 (I.length + 1) 1) (sv C) ff) ++ [.box zT, .row 1 (((I ++ [x]).map S1).flatten)]) (by rw [← hxs]; rfl) ?_
  refine awp_told (told_mk hb (cs' := mk5 L a1 (sv (I ++ [x])) (sv C) ff) 1 rfl (flat_bd (fun _ => rfl) _) (by rw [mk5, mk5, ← frz_sv (H.length + 1) (I ++ [x]), List.length_append]; simp only [List.map_cons, List.map_nil, hff]; rfl) (by simp only [List.map_cons, List.map_nil, hff]; rfl)) ?_
  refine awp_heap (H' := Bp H b (mk5 L a1 (sv (I ++ [x])) (sv C) ff) ++ [.box zT, .dead]) rfl ?_
  refine awp_seq ?_
  -- region 5
  refine awp_region rfl ?_
  refine aops_run 3 (by simp only [fw0, fw1, fw2, fw3, fw4, fw5, fw6, fw7, ↓reduceIte, Nat.reduceAdd, Nat.reduceMul, Nat.reduceEqDiff, Nat.reduceLT, Nat.reduceLeDiff, reduceCtorEq, Bool.false_eq_true, Bool.not_true, Bool.not_false, and_self, Nat.le_refl] <;> rfl) ?_
  refine aops_call rfl rfl rfl en40 ((c40 Γ F x (by omega) _ _ (hN.nm _ _)).mono fun q H' hq => ?_)
  obtain ⟨rfl, rfl⟩ := hq
  refine aops_run 3 (by simp only [fw0, fw1, fw2, fw3, fw4, fw5, fw6, fw7, ↓reduceIte, Nat.reduceAdd, Nat.reduceMul, Nat.reduceEqDiff, Nat.reduceLT, Nat.reduceLeDiff, reduceCtorEq, Bool.false_eq_true, Bool.not_true, Bool.not_false, and_self, Nat.le_refl, fl59_4, ti33, Bp_get hb, Bp_set hb, mk5_fw, mk5, sv_fw, hone] <;> rfl) ?_
  refine awp_heap (H' := Bp H b (mk5 L a1 (sv (I ++ [x])) (sv C) (sv (lessF F x))) ++ [.box zT, .dead]) rfl ?_
  refine awp_seq ?_
  have hwd : IntKind.i64.wrap (d - 1) = d - 1 := wrapId ⟨by omega, by omega⟩
  have hlF := lessF_len F x
  -- region 6
  refine awp_region rfl ?_
  refine aops_run 4 (by simp only [fw0, fw1, fw2, fw3, fw4, fw5, fw6, fw7, ↓reduceIte, Nat.reduceAdd, Nat.reduceMul, Nat.reduceEqDiff, Nat.reduceLT, Nat.reduceLeDiff, reduceCtorEq, Bool.false_eq_true, Bool.not_true, Bool.not_false, and_self, Nat.le_refl, hwd] <;> rfl) ?_
  refine aops_call rfl rfl rfl en34 ((hW.at hb [.box zT, .dead] a1 (I ++ [x]) (lessF F x) (d - 1) (nmB_sv _ _ _) hdn (by omega) (by omega) (by simp; omega) (by omega)).mono fun p H' hp => ?_)
  obtain ⟨rfl, rfl⟩ := hp
  generalize W (d - 1) a1 (I ++ [x]) (lessF F x) = t
  obtain ⟨t, a2⟩ := t
  dsimp only
  refine aops_run 4 (by simp only [fw0, fw1, fw2, fw3, fw4, fw5, fw6, fw7, ↓reduceIte, Nat.reduceAdd, Nat.reduceMul, Nat.reduceEqDiff, Nat.reduceLT, Nat.reduceLeDiff, reduceCtorEq, Bool.false_eq_true, Bool.not_true, Bool.not_false, and_self, Nat.le_refl, un27, ti29, pl29, Bp_at, Bp_at0, Bp_seta, Bp_len, Tm.fw, PV.plainL] <;> rfl) ?_
  refine awp_seq ?_
  -- region 7
  refine awp_run rfl (by simp only [fw0, fw1, fw2, fw3, fw4, fw5, fw6, fw7, ↓reduceIte, Nat.reduceAdd, Nat.reduceMul, Nat.reduceEqDiff, Nat.reduceLT, Nat.reduceLeDiff, reduceCtorEq, Bool.false_eq_true, Bool.not_true, Bool.not_false, and_self, Nat.le_refl, fl59_2, ti33, Bp_get hb, Bp_set hb, mk5_fw, mk5, sv_fw, hone] <;> rfl) ?_
  refine awp_seq ?_
  -- region 8
  refine awp_run rfl (by simp only [fw0, fw1, fw2, fw3, fw4, fw5, fw6, fw7, ↓reduceIte, Nat.reduceAdd, Nat.reduceMul, Nat.reduceEqDiff, Nat.reduceLT, Nat.reduceLeDiff, reduceCtorEq, Bool.false_eq_true, Bool.not_true, Bool.not_false, and_self, Nat.le_refl, fl59_4, ti33, Bp_get hb, Bp_set hb, mk5_fw, mk5, sv_fw, hone] <;> rfl) ?_
  refine awp_seq ?_
  -- region 9
  refine awp_run rfl (by simp only [fw0, fw1, fw2, fw3, fw4, fw5, fw6, fw7, ↓reduceIte, Nat.reduceAdd, Nat.reduceMul, Nat.reduceEqDiff, Nat.reduceLT, Nat.reduceLeDiff, reduceCtorEq, Bool.false_eq_true, Bool.not_true, Bool.not_false, and_self, Nat.le_refl, ti29, Bp_at, Bp_at0, Bp_seta0, Tm.fw] <;> rfl) ?_
  refine awp_told (told_leBox H.length (by rw [Bp_at0]; rfl) (kids_le 3 x 0 [t])) ?_
  refine awp_heap (H' := Bp H b (mk5 L a2 (sv I) (sv C) ff) ++ [.box (oneT 3 x t).enc, .dead, .box [.int .i64 3, .str x, .int .i64 0, .vec ([t].map Tm.enc) true]]) (by rw [Bp_seta0]; rfl) ?_
  refine awp_ret ?_
  exact ret_Bp hb (p := .agg (oneT 3 x t).enc) (.inl rfl) hbd _ (by simp [ares, aresL, ares1, rd, ev, alook, aput, Tryd.f18, ti29, Tm.fw, Bp_at0]) (by simp [PV.bd, Tm.fw]) (hmk _) ⟨rfl, rfl⟩

end Go.Proofs.YtnjlfbefpoecpaaDoor

/- The contracts of what makes a let, a try. -/
namespace Go.Proofs.YtnjlfbefpoecpaaDoor
set_option linter.unusedVariables false
set_option linter.unusedSimpArgs false
set_option maxRecDepth 100000
open Go.RowKit Fw

theorem Bd_at (H : List Blk) (b : Nat) (B : Blk) (L : List Blk) (k : Nat) : (H.set b B ++ L)[H.length + k]? = L[k]? := by
  rw [List.getElem?_append_right (by simp)]; simp
theorem Bp_take (H : List Blk) (b : Nat) (cs : List PV) (L : List Blk) (k : Nat) : (Bp H b cs ++ L).take (H.length + k) = Bp H b cs ++ L.take k := by
  rw [List.take_append, Bp_len, List.take_of_length_le (by rw [Bp_len]; omega)]; simp

theorem MkC.turn {Γ : Nat → PV} {fn : Nat} {L : List Int} {C : Names} {ok : Int → Prop} {W : WF} (h : MkC Γ fn L C ok W) {H : List Blk} {b : Nat} (hb : b < H.length) (Ls : List Blk) (a : Nat) (I F : Names) (d : Int) (h1 : ok d) (h2 : -10 ≤ d) (h3 : d ≤ 100) (h4 : I.length + (d + 1).toNat ≤ 1000) (h5 : F.length + (d + 1).toNat ≤ 1000) :
    ∀ H2 : List Blk, b < H2.length → H2[b]? = (Bp H b (mk5 L a (sv I) (sv C) (sv F)) ++ Ls)[b]? → ACalls Tryd.prog Γ fn [.ptr b 0, .int .i64 d] H2 (fun q H1 => q = .agg (W d a I F).1.enc ∧ H1 = H2.set b (.box (mk5 L (W d a I F).2 (sv I) (sv C) (sv F)))) := fun H2 k1 k2 => by
  have := h H2 b a I F d (sv F) k1 (nmB_sv _ _ _) h1 h2 h3 h4 h5
  rw [Bp_get hb] at k2
  rwa [Bp_self k2] at this

/-- Maker.try -/
theorem c57 (Γ : Nat → PV) {L : List Int} (hL : U8s L) {C : Names} {W : WF} {n : Nat} (hW : MkC Γ 34 L C (fun d => d.toNat < n) W) : MkC Γ 57 L C (fun d => 0 < d ∧ (d - 1).toNat < n) (tryF L W) := by
  intro H b a I F d ff hb hN ⟨hd0, hdn⟩ hd1 hd2 hIl hFl
  refine acalls_of_awp Tryd.func57 rfl (by simp [Tryd.f57]) fun hbd => ?_
  have hmk := mk5_bd hb hbd
  have hff := fun j X => hN.frz j 1 X
  have hone := hN.one
  have hwd : IntKind.i64.wrap (d - 1) = d - 1 := wrapId ⟨by omega, by omega⟩
  refine awp_seq ?_
  -- region 0
  refine awp_run rfl (by simp only [fw0, fw1, fw2, fw3, fw4, fw5, fw6, fw7, ↓reduceIte, Nat.reduceAdd, Nat.reduceMul, Nat.reduceEqDiff, Nat.reduceLT, Nat.reduceLeDiff, reduceCtorEq, Bool.false_eq_true, Bool.not_true, Bool.not_false, and_self, Nat.le_refl, ti29, Bp_len] <;> rfl) ?_
  refine awp_seq ?_
  -- region 1
  refine awp_region rfl ?_
  refine aops_run 3 (by simp only [fw0, fw1, fw2, fw3, fw4, fw5, fw6, fw7, ↓reduceIte, Nat.reduceAdd, Nat.reduceMul, Nat.reduceEqDiff, Nat.reduceLT, Nat.reduceLeDiff, reduceCtorEq, Bool.false_eq_true, Bool.not_true, Bool.not_false, and_self, Nat.le_refl, hwd] <;> rfl) ?_
  refine aops_call rfl rfl rfl en34 ((hW.at hb [.box zT] a I F (d - 1) hN hdn (by omega) (by omega) (by omega) (by omega)).mono fun p H' hp => ?_)
  obtain ⟨rfl, rfl⟩ := hp
  have htry : tryF L W d a I F = (twoT 9 (pick3 L (W (d - 1) a I F).2).1 (W (d - 1) a I F).1 (W (d - 1) (pick3 L (W (d - 1) a I F).2).2 (I ++ [(pick3 L (W (d - 1) a I F).2).1]) (lessF F (pick3 L (W (d - 1) a I F).2).1)).1, (W (d - 1) (pick3 L (W (d - 1) a I F).2).2 (I ++ [(pick3 L (W (d - 1) a I F).2).1]) (lessF F (pick3 L (W (d - 1) a I F).2).1)).2) := rfl
  rw [htry]
  generalize W (d - 1) a I F = p
  obtain ⟨p, a0⟩ := p
  dsimp only
  refine aops_run 2 (by simp only [fw0, fw1, fw2, fw3, fw4, fw5, fw6, fw7, ↓reduceIte, Nat.reduceAdd, Nat.reduceMul, Nat.reduceEqDiff, Nat.reduceLT, Nat.reduceLeDiff, reduceCtorEq, Bool.false_eq_true, Bool.not_true, Bool.not_false, and_self, Nat.le_refl, ti29, Bp_len, Bp_seta, Bp_at, Tm.fw] <;> rfl) ?_
  refine awp_seq ?_
  -- region 2
  refine awp_region rfl ?_
  refine aops_run 2 (by simp only [fw0, fw1, fw2, fw3, fw4, fw5, fw6, fw7, ↓reduceIte, Nat.reduceAdd, Nat.reduceMul, Nat.reduceEqDiff, Nat.reduceLT, Nat.reduceLeDiff, reduceCtorEq, Bool.false_eq_true, Bool.not_true, Bool.not_false, and_self, Nat.le_refl, un33, ti9] <;> rfl) ?_
  refine aops_call rfl rfl rfl en33 ((c33at Γ hb hL [.box zT, .box p.enc] a0 (sv I) (sv C) ff).mono fun p H' hp => ?_)
  obtain ⟨rfl, rfl⟩ := hp
  obtain ⟨i, hi, him, hg⟩ := pick_at hL a0
  have hx2 : (byteF L a0).2 = (pick3 L a0).2 := rfl
  rw [hx2]
  refine aops_run 4 (by simp only [fw0, fw1, fw2, fw3, fw4, fw5, fw6, fw7, ↓reduceIte, Nat.reduceAdd, Nat.reduceMul, Nat.reduceEqDiff, Nat.reduceLT, Nat.reduceLeDiff, reduceCtorEq, Bool.false_eq_true, Bool.not_true, Bool.not_false, and_self, Nat.le_refl, el33, ti9, ne_eq, Int.reduceEq, not_false_eq_true, him, hg, Int.natCast_nonneg, Int.toNat_natCast] <;> rfl) ?_
  generalize pick3 L a0 = x
  obtain ⟨x, a1⟩ := x
  dsimp only
  refine awp_seq ?_
  -- region 3
  refine awp_run rfl (by simp only [fw0, fw1, fw2, fw3, fw4, fw5, fw6, fw7, ↓reduceIte, Nat.reduceAdd, Nat.reduceMul, Nat.reduceEqDiff, Nat.reduceLT, Nat.reduceLeDiff, reduceCtorEq, Bool.false_eq_true, Bool.not_true, Bool.not_false, and_self, Nat.le_refl, fl59_2, ti33, Bp_get hb, mk5_fw] <;> rfl) ?_
  refine awp_seq ?_
  -- region 4
  refine awp_run rfl (by simp only [fw0, fw1, fw2, fw3, fw4, fw5, fw6, fw7, ↓reduceIte, Nat.reduceAdd, Nat.reduceMul, Nat.reduceEqDiff, Nat.reduceLT, Nat.reduceLeDiff, reduceCtorEq, Bool.false_eq_true, Bool.not_true, Bool.not_false, and_self, Nat.le_refl, fl59_4, ti33, Bp_get hb, mk5_fw] <;> rfl) ?_
  refine awp_keep (A' := [(0, .ptr b 0), (1, .int .i64 d), (4, .ptr H.length 0), (5, .ptr (H.length + 1) 0), (6, .str x), (7, sv I), (8, ff)]) [0, 1, 4, 5, 6, 7, 8] rfl ?_
  refine awp_seq ?_
  -- region 5
  refine awp_region rfl ?_
  refine aops_run 2 (by simp only [fw0, fw1, fw2, fw3, fw4, fw5, fw6, fw7, ↓reduceIte, Nat.reduceAdd, Nat.reduceMul, Nat.reduceEqDiff, Nat.reduceLT, Nat.reduceLeDiff, reduceCtorEq, Bool.false_eq_true, Bool.not_true, Bool.not_false, and_self, Nat.le_refl] <;> rfl) ?_
  refine aops_one rfl (os_appendNew rfl un33 ti9 un33 (.inl ⟨_, rfl⟩) (by decide) rfl rfl (fun es f h e he => by
    simp only [fw0, fw1, fw2, fw3, fw4, fw5, fw6, fw7, ↓reduceIte, Nat.reduceAdd, Nat.reduceMul, Nat.reduceEqDiff, Nat.reduceLT, Nat.reduceLeDiff, reduceCtorEq, Bool.false_eq_true, Bool.not_true, Bool.not_false, and_self, Nat.le_refl, PV.vec.injEq, sv] at h
    obtain ⟨rfl, rfl⟩ := h
    obtain ⟨y, _, rfl⟩ := List.mem_map.1 he
    rfl) rfl (by rw [List.length_map]; show I.length * 16 ≤ _; omega) (by rw [List.length_map]; omega) ?_)
  refine aops_run 2 (by simp only [fw0, fw1, fw2, fw3, fw4, fw5, fw6, fw7, ↓reduceIte, Nat.reduceAdd, Nat.reduceMul, Nat.reduceEqDiff, Nat.reduceLT, Nat.reduceLeDiff, reduceCtorEq, Bool.false_eq_true, Bool.not_true, Bool.not_false, and_self, Nat.le_refl, un33, ti9, Bp_len] <;> rfl) ?_
  refine aops_one rfl (os_appendR (cs := (I.map S1).flatten) (q := 0) (k := I.length) (b := H.length + 2) rfl un33 ti9 un33 (.inl ⟨_, rfl⟩) (by simp [ev, alook, aput, Bp_len]) (by rw [Bp_at]; rfl) (by rw [flat_len S1_len]; simp) (by simp only [fw0, fw1, fw2, fw3, fw4, fw5, fw6, fw7, ↓reduceIte, Nat.reduceAdd, Nat.reduceMul, Nat.reduceEqDiff, Nat.reduceLT, Nat.reduceLeDiff, reduceCtorEq, Bool.false_eq_true, Bool.not_true, Bool.not_false, and_self, Nat.le_refl] <;> rfl) (fun es f h e he => by
    simp only [fw0, fw1, fw2, fw3, fw4, fw5, fw6, fw7, ↓reduceIte, Nat.reduceAdd, Nat.reduceMul, Nat.reduceEqDiff, Nat.reduceLT, Nat.reduceLeDiff, reduceCtorEq, Bool.false_eq_true, Bool.not_true, Bool.not_false, and_self, Nat.le_refl, PV.vec.injEq] at h
    obtain ⟨rfl, rfl⟩ := h
    simp only [List.mem_singleton] at he
    subst he; rfl) rfl (by show (I.length + 1) * 16 ≤ _; omega) (by show I.length + 1 ≤ _; omega) ?_)
  refine aops_run 3 (by simp only [fw0, fw1, fw2, fw3, fw4, fw5, fw6, fw7, ↓reduceIte, Nat.reduceAdd, Nat.reduceMul, Nat.reduceEqDiff, Nat.reduceLT, Nat.reduceLeDiff, reduceCtorEq, Bool.false_eq_true, Bool.not_true, Bool.not_false, and_self, Nat.le_refl, fl59_2, ti33, Bp_seta, Bp_get hb, Bp_set hb, mk5_fw, mk5] <;> rfl) ?_
  have hxs : (I.map S1).flatten ++ [PV.str x] = ((I ++ [x]).map S1).flatten := by simp [S1]
  refine awp_keep (A' := [(0, .ptr b 0), (1, .int .i64 d), (4, .ptr H.length 0), (5, .ptr (H.length + 1) 0), (6, .str x), (7, sv I), (8, ff)]) [0, 1, 4, 5, 6, 7, 8] rfl ?_
  refine awp_heap (H' := Bp H b (mk5 L a1 (.row (H.length + 2) 0 (I.length + 1) 1) (sv C) ff) ++ [.box zT, .box p.enc, .row 1 (((I ++ [x]).map S1).flatten)]) (by rw [← hxs]; rfl) ?_
  refine awp_told (told_mk hb (cs' := mk5 L a1 (sv (I ++ [x])) (sv C) ff) 2 rfl (flat_bd (fun _ => rfl) _) (by rw [mk5, mk5, ← frz_sv (H.length + 2) (I ++ [x]), List.length_append]; simp only [List.map_cons, List.map_nil, hff]; rfl) (by simp only [List.map_cons, List.map_nil, hff]; rfl)) ?_
  refine awp_heap (H' := Bp H b (mk5 L a1 (sv (I ++ [x])) (sv C) ff) ++ [.box zT, .box p.enc, .dead]) rfl ?_
  refine awp_seq ?_
  -- region 6
  refine awp_region rfl ?_
  refine aops_run 3 (by simp only [fw0, fw1, fw2, fw3, fw4, fw5, fw6, fw7, ↓reduceIte, Nat.reduceAdd, Nat.reduceMul, Nat.reduceEqDiff, Nat.reduceLT, Nat.reduceLeDiff, reduceCtorEq, Bool.false_eq_true, Bool.not_true, Bool.not_false, and_self, Nat.le_refl] <;> rfl) ?_
  refine aops_call rfl rfl rfl en40 ((c40 Γ F x (by omega) _ _ (hN.nm _ _)).mono fun q H' hq => ?_)
  obtain ⟨rfl, rfl⟩ := hq
  refine aops_run 3 (by simp only [fw0, fw1, fw2, fw3, fw4, fw5, fw6, fw7, ↓reduceIte, Nat.reduceAdd, Nat.reduceMul, Nat.reduceEqDiff, Nat.reduceLT, Nat.reduceLeDiff, reduceCtorEq, Bool.false_eq_true, Bool.not_true, Bool.not_false, and_self, Nat.le_refl, fl59_4, ti33, Bp_get hb, Bp_set hb, mk5_fw, mk5, sv_fw, hone] <;> rfl) ?_
  refine awp_keep (A' := [(0, .ptr b 0), (1, .int .i64 d), (4, .ptr H.length 0), (5, .ptr (H.length + 1) 0), (6, .str x), (7, sv I), (8, ff)]) [0, 1, 4, 5, 6, 7, 8] rfl ?_
  refine awp_heap (H' := Bp H b (mk5 L a1 (sv (I ++ [x])) (sv C) (sv (lessF F x))) ++ [.box zT, .box p.enc, .dead]) rfl ?_
  have hlF := lessF_len F x
  refine awp_seq ?_
  -- region 7 drawn
  refine awp_drawnX (some b) [0, 4, 0, 0, 0, 5, 0, 6, 2] [0, 0, 0, 0, 8, 28, 63, 0, 255] mixed rfl (by kernel_rfl) ?_
  have hn : (Bp H b (mk5 L a1 (sv (I ++ [x])) (sv C) (sv (lessF F x))) ++ [Blk.box zT, .box p.enc, .dead]).length = H.length + 3 := by simp [Bp_len]
  rw [hn]
  refine dops_run 5 (by simp only [fw0, fw1, fw2, fw3, fw4, fw5, fw6, fw7, ↓reduceIte, Nat.reduceAdd, Nat.reduceMul, Nat.reduceEqDiff, Nat.reduceLT, Nat.reduceLeDiff, reduceCtorEq, Bool.false_eq_true, Bool.not_true, Bool.not_false, and_self, Nat.le_refl, ti29, Bp_take, Bp_setd hb, Bd_at, Tm.fw, hwd] <;> rfl) ?_
  refine dops_turn rfl rfl rfl rfl en34 rfl (by show b < H.length + 3; omega) (by rw [hn]; omega) (hW.turn hb _ a1 (I ++ [x]) (lessF F x) (d - 1) hdn (by omega) (by omega) (by simp; omega) (by omega)) ?_
  generalize W (d - 1) a1 (I ++ [x]) (lessF F x) = t
  obtain ⟨t, a2⟩ := t
  dsimp only
  refine dops_fn rfl rfl rfl rfl en12 (c12 Γ 9 x p t) ?_
  rw [Bp_set hb]
  refine dops_alloc rfl rfl rfl (by simp [Bp_len]) ti29 ?_
  refine dops_run 1 (by simp only [fw0, fw1, fw2, fw3, fw4, fw5, fw6, fw7, ↓reduceIte, Nat.reduceAdd, Nat.reduceMul, Nat.reduceEqDiff, Nat.reduceLT, Nat.reduceLeDiff, reduceCtorEq, Bool.false_eq_true, Bool.not_true, Bool.not_false, and_self, Nat.le_refl, ti29, Bp_len, Bp_seta, Bp_at, Tm.fw, List.append_assoc, List.length_append] <;> rfl) ?_
  refine dops_end ?_
  refine awp_keep (A' := [(0, .ptr b 0), (4, .ptr H.length 0), (7, sv I), (8, ff), (9, .ptr (H.length + 3) 0)]) [0, 4, 7, 8, 9] rfl ?_
  refine awp_heap (H' := Bp H b (mk5 L a2 (sv (I ++ [x])) (sv C) (sv (lessF F x))) ++ [.box zT, .box p.enc, .dead, .box (twoT 9 x p t).enc]) rfl ?_
  refine awp_seq ?_
  -- region 8
  refine awp_run rfl (by simp only [fw0, fw1, fw2, fw3, fw4, fw5, fw6, fw7, ↓reduceIte, Nat.reduceAdd, Nat.reduceMul, Nat.reduceEqDiff, Nat.reduceLT, Nat.reduceLeDiff, reduceCtorEq, Bool.false_eq_true, Bool.not_true, Bool.not_false, and_self, Nat.le_refl, fl59_2, ti33, Bp_get hb, Bp_set hb, mk5_fw, mk5, sv_fw, hone] <;> rfl) ?_
  refine awp_seq ?_
  -- region 9
  refine awp_run rfl (by simp only [fw0, fw1, fw2, fw3, fw4, fw5, fw6, fw7, ↓reduceIte, Nat.reduceAdd, Nat.reduceMul, Nat.reduceEqDiff, Nat.reduceLT, Nat.reduceLeDiff, reduceCtorEq, Bool.false_eq_true, Bool.not_true, Bool.not_false, and_self, Nat.le_refl, fl59_4, ti33, Bp_get hb, Bp_set hb, mk5_fw, mk5, sv_fw, hone] <;> rfl) ?_
  refine awp_seq ?_
  -- region 10
  refine awp_run rfl (by simp only [fw0, fw1, fw2, fw3, fw4, fw5, fw6, fw7, ↓reduceIte, Nat.reduceAdd, Nat.reduceMul, Nat.reduceEqDiff, Nat.reduceLT, Nat.reduceLeDiff, reduceCtorEq, Bool.false_eq_true, Bool.not_true, Bool.not_false, and_self, Nat.le_refl, ti29, Bp_at, Bp_at0, Bp_seta0, Tm.fw] <;> rfl) ?_
  refine awp_ret ?_
  exact ret_Bp hb (cs' := mk5 L a2 (sv I) (sv C) ff) (p := .agg (twoT 9 x p t).enc) (.inl rfl) hbd _ (by simp [ares, aresL, ares1, rd, ev, alook, aput, Tryd.f57, ti29, Tm.fw, Bp_at0]) (by simp [PV.bd, Tm.fw]) (hmk _) ⟨rfl, rfl⟩

end Go.Proofs.YtnjlfbefpoecpaaDoor
