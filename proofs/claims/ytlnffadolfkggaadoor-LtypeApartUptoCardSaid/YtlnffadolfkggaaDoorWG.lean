/- What the examples come to. -/
import Derived.Test.YtlnffadolfkggaaDoorWF
namespace Go.Proofs.YtlnffadolfkggaaDoor
set_option linter.unusedVariables false
set_option linter.unusedSimpArgs false
set_option maxRecDepth 100000
open Go.RowKit Fw

theorem made_int : Made intS 2 := ⟨right_leaf (by decide) (by decide), solid_leaf (by decide), by rw [cnt_int]; decide⟩
theorem made_ref : Made refS 2 := ⟨right_leaf (by decide) (by decide), solid_leaf (by decide), by rw [cnt_ref]; decide⟩
theorem made_ii : Made (funS intS intS) 7 := made_fun made_int made_int
def exA : Ty := .mk 3 0 0 1 2 [.mk 1 3 0 0 0 [], .mk 1 4 0 0 0 []]
def exB : Ty := .mk 3 5 0 6 7 [.mk 1 8 0 0 0 [], .mk 1 9 0 0 0 []]
def exR : Ty := .mk 2 3 4 0 0 []
theorem freshA : freshOf (funS intS intS) 0 = (exA, 5) := by unfold freshOf; rw [if_pos ⟨made_ii.right, by decide⟩]; rfl
theorem freshB : freshOf (funS intS intS) 5 = (exB, 10) := by unfold freshOf; rw [if_pos ⟨made_ii.right, by decide⟩]; rfl
theorem freshR : freshOf refS 3 = (exR, 5) := by unfold freshOf; rw [if_pos ⟨made_ref.right, by decide⟩]; rfl
theorem exA_right : exA.Right := by have := Ty.fresh_right _ 0 made_ii.right; exact this
theorem exB_right : exB.Right := by have := Ty.fresh_right _ 5 made_ii.right; exact this
theorem exR_right : exR.Right := by have := Ty.fresh_right _ 3 made_ref.right; exact this
theorem subAB : subOf exA exB = ([⟨0, 5⟩, ⟨6, 1⟩, ⟨2, 7⟩, ⟨8, 3⟩, ⟨4, 9⟩], true) := by
  unfold subOf; rw [if_pos ⟨exA_right, exB_right, rfl⟩]; rfl
theorem subAR : subOf exA exR = ([], false) := by
  unfold subOf; rw [if_neg fun h => ?_]
  have := congrArg Sh.kind h.2.2
  revert this; decide
theorem placesA : placesOf exA = [0, 1, 2, 3, 4] := by unfold placesOf; rw [if_pos exA_right]; rfl
theorem shapeA : shapeOf exA = funS intS intS := by unfold shapeOf; rw [if_pos exA_right]; rfl
theorem exA_w : exA.w ≤ 1000000000 := by decide
theorem noTy_not : ¬noTy.Right := fun h => by have := h.node.1; revert this; decide
def outR : Ty := outer exR (-2)
theorem outR_right : outR.Right := by
  have := exR_right.node
  exact .mk _ this (fun k hk => nomatch hk)
theorem atomT_dig {names : List (List UInt8)} {a : Int} (h : 0 ≤ a) (h2 : a < 10) : atomT names a = [39, UInt8.ofNat (48 + a.toNat)] := by
  unfold atomT; rw [if_pos h, itoa_nat h, dec_one (by omega)]
theorem textA : exA.text loHi = [40, 105, 110, 116, 64, 39, 51, 32, 45, 39, 49, 44, 39, 50, 45, 62, 32, 105, 110, 116, 64, 39, 52, 41, 64, 39, 48] := by
  rw [text_right exA_right]
  show [40] ++ ([105, 110, 116] ++ (64 :: atomT loHi 3)) ++ [32, 45] ++ atomT loHi 1 ++ [44] ++ atomT loHi 2 ++ [45, 62, 32] ++ ([105, 110, 116] ++ (64 :: atomT loHi 4)) ++ [41] ++ (64 :: atomT loHi 0) = _
  simp only [atomT_dig (a := 0) (by decide) (by decide), atomT_dig (a := 1) (by decide) (by decide), atomT_dig (a := 2) (by decide) (by decide), atomT_dig (a := 3) (by decide) (by decide), atomT_dig (a := 4) (by decide) (by decide)]
  rfl
theorem textO : outR.text loHi = [114, 101, 102, 64, 72, 105, 91, 39, 52, 93] := by
  rw [text_right outR_right]
  show [114, 101, 102] ++ (64 :: atomT loHi (-2)) ++ [91] ++ atomT loHi 4 ++ [93] = _
  rw [atomT_dig (a := 4) (by decide) (by decide)]
  rfl
theorem i64s {a : Int} (h : -10 ≤ a) (h2 : a ≤ 10) : I64 a := ⟨by omega, by omega⟩
theorem exA_in : exA.In := .mk _ (i64s (by decide) (by decide)) (i64s (by decide) (by decide)) (i64s (by decide) (by decide)) (i64s (by decide) (by decide)) (fun k hk => by
  simp only [exA, Ty.kids, List.mem_cons, List.not_mem_nil, or_false] at hk
  rcases hk with rfl | rfl <;> exact .mk _ (i64s (by decide) (by decide)) (i64s (by decide) (by decide)) (i64s (by decide) (by decide)) (i64s (by decide) (by decide)) (fun k hk => nomatch hk))
theorem outR_in : outR.In := .mk _ (i64s (by decide) (by decide)) (i64s (by decide) (by decide)) (i64s (by decide) (by decide)) (i64s (by decide) (by decide)) (fun k hk => nomatch hk)
theorem mapA : exA.map (renI [1, 3] [9, 8]) = .mk 3 0 0 9 2 [.mk 1 8 0 0 0 [], .mk 1 4 0 0 0 []] := rfl

end Go.Proofs.YtlnffadolfkggaaDoor

/- The contract of the examples. -/
namespace Go.Proofs.YtlnffadolfkggaaDoor
set_option linter.unusedVariables false
set_option linter.unusedSimpArgs false
set_option maxRecDepth 100000
open Go.RowKit Fw

/-- chancel/chancellaw13.examples -/
theorem c9 (Γ : Nat → PV) (hΓ : Tab Γ) : Gives Tryd.prog Γ 9 [] (.bool true) := by
  have h11A := c11 Γ (funS intS intS) (by decide) 0
  have h11B := c11 Γ (funS intS intS) (by decide) 5
  have h11R := c11 Γ refS (by decide) 3
  have h12B := c12 Γ exA exB exA_w
  have h12R := c12 Γ exA exR exA_w
  have h19 := c19 Γ exA exA_w
  have h26A := c26 Γ hΓ loHi (by decide) exA exA_in exA_w
  have h26O := c26 Γ hΓ loHi (by decide) outR outR_in (by decide)
  have h31 := c31 Γ exR (-2)
  have h23A := c23 Γ exA
  have h23N := c23 Γ noTy
  have h29 := c29 Γ exA
  have h33 := c33 Γ [1, 3] [9, 8] exA exA_w
  rw [freshA] at h11A
  rw [freshB] at h11B
  rw [freshR] at h11R
  rw [subAB] at h12B
  rw [subAR] at h12R
  rw [placesA] at h19
  rw [textA] at h26A
  rw [textO] at h26O
  rw [shapeA] at h29
  rw [mapA] at h33
  rw [decide_eq_true exA_right] at h23A
  rw [decide_eq_false noTy_not] at h23N
  have h35 := c35 Γ (funS intS intS) (funS intS intS)
  rw [decide_eq_true rfl] at h35
  have hkA : exA.kids.length = 2 := rfl
  have hM : (Ty.mk 3 0 0 9 2 [.mk 1 8 0 0 0 [], .mk 1 4 0 0 0 []]).enc = [.int .i64 3, .int .i64 0, .int .i64 0, .int .i64 9, .int .i64 2, .vec [[.int .i64 1, .int .i64 8, .int .i64 0, .int .i64 0, .int .i64 0, .vec [] false], [.int .i64 1, .int .i64 4, .int .i64 0, .int .i64 0, .int .i64 0, .vec [] false]] false] := by rw [Ty.enc_eq]; simp [Ty.kids, Ty.enc_eq, Ty.kind, Ty.l, Ty.c, Ty.pc, Ty.x]
  rw [hM] at h33
  refine fn_of_awp Tryd.func9 rfl (by simp [Tryd.f9]) rfl fun H => ?_
  refine awp_seq ?_
  refine awp_run rfl (by simp only [fwA, ↓reduceIte, Nat.reduceAdd, Nat.reduceMul, Nat.reduceEqDiff, Nat.reduceLT, Nat.reduceLeDiff, reduceCtorEq] <;> rfl) ?_
  refine awp_seq ?_
  -- region 1
  refine awp_run rfl (by simp only [fwA, ↓reduceIte, Nat.reduceAdd, Nat.reduceMul, Nat.reduceEqDiff, Nat.reduceLT, Nat.reduceLeDiff, reduceCtorEq, ti26, pl26] <;> rfl) ?_
  refine awp_seq ?_
  -- region 2
  refine awp_run rfl (by simp only [fwA, ↓reduceIte, Nat.reduceAdd, Nat.reduceMul, Nat.reduceEqDiff, Nat.reduceLT, Nat.reduceLeDiff, reduceCtorEq, ti26, pl26] <;> rfl) ?_
  refine awp_told (told_leBox H.length (cs := [.int .i64 1, .int .i64 0, .vec [] true]) (cs' := intS.enc) (by simp only [fwA, ↓reduceIte, Nat.reduceAdd, Nat.reduceMul, Nat.reduceEqDiff, Nat.reduceLT, Nat.reduceLeDiff, reduceCtorEq] <;> rfl) (leaf_le 1)) ?_
  refine awp_told (told_leBox (H.length + 1) (cs := [.int .i64 2, .int .i64 0, .vec [] true]) (cs' := refS.enc) (by simp only [fwA, ↓reduceIte, Nat.reduceAdd, Nat.reduceMul, Nat.reduceEqDiff, Nat.reduceLT, Nat.reduceLeDiff, reduceCtorEq] <;> rfl) (leaf_le 2)) ?_
  refine awp_heap (H' := H ++ [.box intS.enc, .box refS.enc]) (by simp only [fwA, ↓reduceIte, Nat.reduceAdd, Nat.reduceMul, Nat.reduceEqDiff, Nat.reduceLT, Nat.reduceLeDiff, reduceCtorEq] <;> rfl) ?_
  refine awp_seq ?_
  -- region 3
  refine awp_region rfl ?_
  refine aops_run 2 (by simp only [fwA, ↓reduceIte, Nat.reduceAdd, Nat.reduceMul, Nat.reduceEqDiff, Nat.reduceLT, Nat.reduceLeDiff, reduceCtorEq, ti31, ti26, ti3, ti28, ti38, pl38, eq38, un34, un42, un62, ti9, fl31_5, fl31_1, ti29, un29, el29, el42, el34, pl31, Sh.fw, Ty.fw, hkA] <;> rfl) ?_
  refine aops_fn rfl rfl rfl en13 (c13 Γ intS intS) ?_
  refine aops_fn rfl rfl rfl en11 h11A ?_
  refine aops_run 6 (by simp only [fwA, ↓reduceIte, Nat.reduceAdd, Nat.reduceMul, Nat.reduceEqDiff, Nat.reduceLT, Nat.reduceLeDiff, reduceCtorEq, ti31, ti26, ti3, ti28, ti38, pl38, eq38, un34, un42, un62, ti9, fl31_5, fl31_1, ti29, un29, el29, el42, el34, pl31, Sh.fw, Ty.fw, hkA] <;> rfl) ?_
  refine awp_seq ?_
  -- region 4
  refine awp_region rfl ?_
  refine aops_run 2 (by simp only [fwA, ↓reduceIte, Nat.reduceAdd, Nat.reduceMul, Nat.reduceEqDiff, Nat.reduceLT, Nat.reduceLeDiff, reduceCtorEq, ti31, ti26, ti3, ti28, ti38, pl38, eq38, un34, un42, un62, ti9, fl31_5, fl31_1, ti29, un29, el29, el42, el34, pl31, Sh.fw, Ty.fw, hkA] <;> rfl) ?_
  refine aops_fn rfl rfl rfl en13 (c13 Γ intS intS) ?_
  refine aops_run 1 (by simp only [fwA, ↓reduceIte, Nat.reduceAdd, Nat.reduceMul, Nat.reduceEqDiff, Nat.reduceLT, Nat.reduceLeDiff, reduceCtorEq] <;> rfl) ?_
  refine aops_fn rfl rfl rfl en11 h11B ?_
  refine aops_run 6 (by simp only [fwA, ↓reduceIte, Nat.reduceAdd, Nat.reduceMul, Nat.reduceEqDiff, Nat.reduceLT, Nat.reduceLeDiff, reduceCtorEq, ti31, ti26, ti3, ti28, ti38, pl38, eq38, un34, un42, un62, ti9, fl31_5, fl31_1, ti29, un29, el29, el42, el34, pl31, Sh.fw, Ty.fw, hkA] <;> rfl) ?_
  refine awp_seq ?_
  -- region 5
  refine awp_region rfl ?_
  refine aops_run 1 (by simp only [fwA, ↓reduceIte, Nat.reduceAdd, Nat.reduceMul, Nat.reduceEqDiff, Nat.reduceLT, Nat.reduceLeDiff, reduceCtorEq, ti31, ti26, ti3, ti28, ti38, pl38, eq38, un34, un42, un62, ti9, fl31_5, fl31_1, ti29, un29, el29, el42, el34, pl31, Sh.fw, Ty.fw, hkA] <;> rfl) ?_
  refine aops_fn rfl rfl rfl en11 h11R ?_
  refine aops_run 6 (by simp only [fwA, ↓reduceIte, Nat.reduceAdd, Nat.reduceMul, Nat.reduceEqDiff, Nat.reduceLT, Nat.reduceLeDiff, reduceCtorEq, ti31, ti26, ti3, ti28, ti38, pl38, eq38, un34, un42, un62, ti9, fl31_5, fl31_1, ti29, un29, el29, el42, el34, pl31, Sh.fw, Ty.fw, hkA] <;> rfl) ?_
  refine awp_heap (H' := H ++ [.box intS.enc, .box refS.enc, .box exA.enc, .box exB.enc, .box exR.enc]) (by simp) ?_
  refine awp_keep (A' := [(1, .ptr H.length 0), (2, .ptr (H.length + 1) 0), (3, .ptr (H.length + 2) 0), (4, .int .i64 5), (5, .ptr (H.length + 3) 0), (6, .int .i64 10), (7, .ptr (H.length + 4) 0), (8, .int .i64 5)]) [1, 2, 3, 4, 5, 6, 7, 8] (by simp [akeep, alook, aput, ev]) ?_
  refine awp_seq ?_
  -- region 6
  refine awp_region rfl ?_
  refine aops_run 2 (by simp only [fwA, ↓reduceIte, Nat.reduceAdd, Nat.reduceMul, Nat.reduceEqDiff, Nat.reduceLT, Nat.reduceLeDiff, reduceCtorEq, ti31, ti26, ti3, ti28, ti38, pl38, eq38, un34, un42, un62, ti9, fl31_5, fl31_1, ti29, un29, el29, el42, el34, pl31, Sh.fw, Ty.fw, hkA] <;> rfl) ?_
  refine aops_fn rfl rfl rfl en12 h12B ?_
  refine aops_run 5 (by simp only [fwA, ↓reduceIte, Nat.reduceAdd, Nat.reduceMul, Nat.reduceEqDiff, Nat.reduceLT, Nat.reduceLeDiff, reduceCtorEq] <;> rfl) ?_
  refine awp_seq ?_
  -- region 7
  refine awp_region rfl ?_
  refine aops_run 2 (by simp only [fwA, ↓reduceIte, Nat.reduceAdd, Nat.reduceMul, Nat.reduceEqDiff, Nat.reduceLT, Nat.reduceLeDiff, reduceCtorEq, ti31, ti26, ti3, ti28, ti38, pl38, eq38, un34, un42, un62, ti9, fl31_5, fl31_1, ti29, un29, el29, el42, el34, pl31, Sh.fw, Ty.fw, hkA] <;> rfl) ?_
  refine aops_fn rfl rfl rfl en12 h12R ?_
  refine aops_run 5 (by simp only [fwA, ↓reduceIte, Nat.reduceAdd, Nat.reduceMul, Nat.reduceEqDiff, Nat.reduceLT, Nat.reduceLeDiff, reduceCtorEq] <;> rfl) ?_
  refine awp_seq ?_
  -- region 8
  refine awp_region rfl ?_
  refine aops_run 1 (by simp only [fwA, ↓reduceIte, Nat.reduceAdd, Nat.reduceMul, Nat.reduceEqDiff, Nat.reduceLT, Nat.reduceLeDiff, reduceCtorEq, ti31, ti26, ti3, ti28, ti38, pl38, eq38, un34, un42, un62, ti9, fl31_5, fl31_1, ti29, un29, el29, el42, el34, pl31, Sh.fw, Ty.fw, hkA] <;> rfl) ?_
  refine aops_fn rfl rfl rfl en19 h19 ?_
  refine aops_run 1 (by simp only [fwA, ↓reduceIte, Nat.reduceAdd, Nat.reduceMul, Nat.reduceEqDiff, Nat.reduceLT, Nat.reduceLeDiff, reduceCtorEq] <;> rfl) ?_
  refine awp_keep (A' := [(1, .ptr H.length 0), (3, .ptr (H.length + 2) 0), (4, .int .i64 5), (6, .int .i64 10), (7, .ptr (H.length + 4) 0), (8, .int .i64 5), (9, .vec [[.int .i64 0, .int .i64 5], [.int .i64 6, .int .i64 1], [.int .i64 2, .int .i64 7], [.int .i64 8, .int .i64 3], [.int .i64 4, .int .i64 9]] false), (10, .bool true), (12, .bool false), (13, .vec [[.int .i64 0], [.int .i64 1], [.int .i64 2], [.int .i64 3], [.int .i64 4]] false)]) [1, 3, 4, 6, 7, 8, 9, 10, 12, 13] (by simp [akeep, alook, aput, ev, Pr.enc, I1]) ?_
  refine awp_seq ?_
  refine awp_seq ?_
  -- region 9
  refine awp_run rfl (by simp only [fwA, ↓reduceIte, Nat.reduceAdd, Nat.reduceMul, Nat.reduceEqDiff, Nat.reduceLT, Nat.reduceLeDiff, reduceCtorEq, ti31, ti26, ti3, ti28, ti38, pl38, eq38, un34, un42, un62, ti9, fl31_5, fl31_1, ti29, un29, el29, el42, el34, pl31, Sh.fw, Ty.fw, hkA, List.length_map, List.length_cons, List.length_nil] <;> rfl) ?_
  refine awp_cond (by simp only [fwA, ↓reduceIte, Nat.reduceAdd, Nat.reduceMul, Nat.reduceEqDiff, Nat.reduceLT, Nat.reduceLeDiff, reduceCtorEq] <;> rfl) ?_
  refine awp_skip ?_
  refine awp_seq ?_
  -- region 11
  refine awp_run rfl (by simp only [fwA, ↓reduceIte, Nat.reduceAdd, Nat.reduceMul, Nat.reduceEqDiff, Nat.reduceLT, Nat.reduceLeDiff, reduceCtorEq, ti31, ti26, ti3, ti28, ti38, pl38, eq38, un34, un42, un62, ti9, fl31_5, fl31_1, ti29, un29, el29, el42, el34, pl31, Sh.fw, Ty.fw, hkA, List.length_cons, List.length_nil, if_pos, Nat.reduceAdd, Nat.reduceLeDiff] <;> rfl) ?_
  refine awp_keep (A' := [(1, .ptr H.length 0), (3, .ptr (H.length + 2) 0), (4, .int .i64 5), (6, .int .i64 10), (7, .ptr (H.length + 4) 0), (8, .int .i64 5), (9, .vec [[.int .i64 0, .int .i64 5], [.int .i64 6, .int .i64 1], [.int .i64 2, .int .i64 7], [.int .i64 8, .int .i64 3], [.int .i64 4, .int .i64 9]] false), (10, .bool true), (12, .bool false), (13, .vec [[.int .i64 0], [.int .i64 1], [.int .i64 2], [.int .i64 3], [.int .i64 4]] false), (14, .vec [[.str [76, 111]], [.str [72, 105]]] true)]) [1, 3, 4, 6, 7, 8, 9, 10, 12, 13, 14] (by simp [akeep, alook, aput, ev]) ?_
  have hle14 : ∀ t : Ty, PV.leL [.vec [[.str [76, 111]], [.str [72, 105]]] true, .agg t.enc] [namesV loHi, .agg t.enc] := fun t => ⟨⟨nofun, PV.leLL_refl _⟩, PV.leL_refl _⟩
  refine awp_seq ?_
  -- region 12 drawn
  refine awp_drawn [0, 0, 0, 0, 0, 0, 0, 0, 0, 0, 0, 0, 0, 0, 0, 0, 0, 0, 0, 0, 1, 0, 0, 0, 0, 0, 1, 0, 0, 0, 0, 0, 0, 1, 0, 0, 0, 0, 0, 0, 1, 0, 0, 0, 0, 0, 0, 1, 0, 0, 0, 0, 0, 0, 1, 0, 0, 0, 0, 0, 1, 0, 0, 0, 0, 0, 1, 0, 0, 0, 0, 0, 0, 1, 0, 0, 0, 0, 0, 0, 0, 0, 1, 0, 1, 1, 0, 0, 0, 0, 1, 0, 0, 0, 0, 0, 0, 1, 0, 0, 0] [0, 1, 3, 7, 15, 31, 63, 127, 255, 511, 1023, 2047, 4095, 8191, 16383, 32767, 65535, 131071, 262143, 524287, 1048575, 2097151, 4194303, 8388607, 16777215, 33554431, 67108863, 16777215, 268435455, 536870911, 1073741823, 2147483647, 4294967295, 8589934591, 2147483647, 34359738367, 68719476735, 137438953471, 274877906943, 549755813887, 1099511627775, 274877906943, 4398046511103, 8796093022207, 17592186044415, 35184372088831, 70368744177663, 140737488355327, 35184372088831, 562949953421311, 1125899906842623, 2251799813685247, 4503599627370495, 9007199254740991, 18014398509481983, 4503599627370495, 72057594037927935, 144115188075855871, 288230376151711743, 576460752303423487, 576460752303423487, 2305843009213693951, 4611686018427387903, 9223372036854775807, 18446744073709551615, 36893488147419103231, 36893488147419103231, 36893488147419103231, 258254417031933722623, 590295810358705651711, 1180591620717411303423, 2361183241434822606847, 4722366482869645213695, 9444732965739290427391, 18889465931478580854783, 37778931862957161709567, 75557863725914323419135, 151115727451828646838271, 302231454903657293676543, 604462909807314587353087, 1208925819614629174706175, 2417851639229258349412351, 4835703278458516698824703, 9671406556917033397649407, 4835703278458516698824703, 4835703278458516698824703, 77371252455336267181195263, 154742504910672534362390527, 309485009821345068724781055, 618970019642690137449562111, 1237940039285380274899124223, 1237940039285380274899124223, 1237940039285380274899124223, 9903520314283042199192993791, 19807040628566084398385987583, 39614081257132168796771975167, 79228162514264337593543950335, 158456325028528675187087900671, 316912650057057350374175801343, 633825300114114700748351602687, 1267650600228229401496703205375] mixed rfl (by kernel_rfl) ?_
  refine dops_run 13 (by simp only [fwA, ↓reduceIte, Nat.reduceAdd, Nat.reduceMul, Nat.reduceEqDiff, Nat.reduceLT, Nat.reduceLeDiff, reduceCtorEq, ti31, ti26, ti3, ti28, ti38, pl38, eq38, un34, un42, un62, ti9, fl31_5, fl31_1, ti29, un29, el29, el42, el34, pl31, Sh.fw, Ty.fw, hkA] <;> rfl) ?_
  refine dops_run 11 (by simp only [fwA, ↓reduceIte, Nat.reduceAdd, Nat.reduceMul, Nat.reduceEqDiff, Nat.reduceLT, Nat.reduceLeDiff, reduceCtorEq, ti31, ti26, ti3, ti28, ti38, pl38, eq38, un34, un42, un62, ti9, fl31_5, fl31_1, ti29, un29, el29, el42, el34, pl31, Sh.fw, Ty.fw, hkA] <;> rfl) ?_
  refine dops_run 7 (by simp only [fwA, ↓reduceIte, Nat.reduceAdd, Nat.reduceMul, Nat.reduceEqDiff, Nat.reduceLT, Nat.reduceLeDiff, reduceCtorEq, ti31, ti26, ti3, ti28, ti38, pl38, eq38, un34, un42, un62, ti9, fl31_5, fl31_1, ti29, un29, el29, el42, el34, pl31, Sh.fw, Ty.fw, hkA] <;> rfl) ?_
  refine dops_run 7 (by simp only [fwA, ↓reduceIte, Nat.reduceAdd, Nat.reduceMul, Nat.reduceEqDiff, Nat.reduceLT, Nat.reduceLeDiff, reduceCtorEq, ti31, ti26, ti3, ti28, ti38, pl38, eq38, un34, un42, un62, ti9, fl31_5, fl31_1, ti29, un29, el29, el42, el34, pl31, Sh.fw, Ty.fw, hkA] <;> rfl) ?_
  refine dops_run 7 (by simp only [fwA, ↓reduceIte, Nat.reduceAdd, Nat.reduceMul, Nat.reduceEqDiff, Nat.reduceLT, Nat.reduceLeDiff, reduceCtorEq, ti31, ti26, ti3, ti28, ti38, pl38, eq38, un34, un42, un62, ti9, fl31_5, fl31_1, ti29, un29, el29, el42, el34, pl31, Sh.fw, Ty.fw, hkA] <;> rfl) ?_
  refine dops_run 7 (by simp only [fwA, ↓reduceIte, Nat.reduceAdd, Nat.reduceMul, Nat.reduceEqDiff, Nat.reduceLT, Nat.reduceLeDiff, reduceCtorEq, ti31, ti26, ti3, ti28, ti38, pl38, eq38, un34, un42, un62, ti9, fl31_5, fl31_1, ti29, un29, el29, el42, el34, pl31, Sh.fw, Ty.fw, hkA] <;> rfl) ?_
  refine dops_run 9 (by simp only [fwA, ↓reduceIte, Nat.reduceAdd, Nat.reduceMul, Nat.reduceEqDiff, Nat.reduceLT, Nat.reduceLeDiff, reduceCtorEq, ti31, ti26, ti3, ti28, ti38, pl38, eq38, un34, un42, un62, ti9, fl31_5, fl31_1, ti29, un29, el29, el42, el34, pl31, Sh.fw, Ty.fw, hkA] <;> rfl) ?_
  refine dops_fnLe rfl (by simp only [fwA, ↓reduceIte, Nat.reduceAdd, Nat.reduceMul, Nat.reduceEqDiff, Nat.reduceLT, Nat.reduceLeDiff, reduceCtorEq] <;> rfl) rfl rfl en26 h26A (hle14 exA) ?_
  refine dops_run 5 (by simp only [fwA, ↓reduceIte, Nat.reduceAdd, Nat.reduceMul, Nat.reduceEqDiff, Nat.reduceLT, Nat.reduceLeDiff, reduceCtorEq, ti31, ti26, ti3, ti28, ti38, pl38, eq38, un34, un42, un62, ti9, fl31_5, fl31_1, ti29, un29, el29, el42, el34, pl31, Sh.fw, Ty.fw, hkA, List.length_cons, List.length_nil, if_pos, Nat.reduceAdd, Nat.reduceLeDiff, decide_true] <;> rfl) ?_
  refine dops_fn rfl (by simp only [fwA, ↓reduceIte, Nat.reduceAdd, Nat.reduceMul, Nat.reduceEqDiff, Nat.reduceLT, Nat.reduceLeDiff, reduceCtorEq] <;> rfl) rfl rfl en37 (c37 Γ 1 (i64s (by decide) (by decide))) ?_
  refine dops_fn rfl (by simp only [fwA, ↓reduceIte, Nat.reduceAdd, Nat.reduceMul, Nat.reduceEqDiff, Nat.reduceLT, Nat.reduceLeDiff, reduceCtorEq] <;> rfl) rfl rfl en31 h31 ?_
  refine dops_fnLe rfl (by simp only [fwA, ↓reduceIte, Nat.reduceAdd, Nat.reduceMul, Nat.reduceEqDiff, Nat.reduceLT, Nat.reduceLeDiff, reduceCtorEq] <;> rfl) rfl rfl en26 h26O (hle14 outR) ?_
  refine dops_run 4 (by simp only [fwA, ↓reduceIte, Nat.reduceAdd, Nat.reduceMul, Nat.reduceEqDiff, Nat.reduceLT, Nat.reduceLeDiff, reduceCtorEq, ti31, ti26, ti3, ti28, ti38, pl38, eq38, un34, un42, un62, ti9, fl31_5, fl31_1, ti29, un29, el29, el42, el34, pl31, Sh.fw, Ty.fw, hkA, List.length_cons, List.length_nil, if_pos, Nat.reduceAdd, Nat.reduceLeDiff, decide_true] <;> rfl) ?_
  refine dops_fn rfl (by simp only [fwA, ↓reduceIte, Nat.reduceAdd, Nat.reduceMul, Nat.reduceEqDiff, Nat.reduceLT, Nat.reduceLeDiff, reduceCtorEq] <;> rfl) rfl rfl en23 h23A ?_
  refine dops_run 3 (by simp only [fwA, ↓reduceIte, Nat.reduceAdd, Nat.reduceMul, Nat.reduceEqDiff, Nat.reduceLT, Nat.reduceLeDiff, reduceCtorEq, ti31, ti26, ti3, ti28, ti38, pl38, eq38, un34, un42, un62, ti9, fl31_5, fl31_1, ti29, un29, el29, el42, el34, pl31, Sh.fw, Ty.fw, hkA] <;> rfl) ?_
  refine dops_fnLe rfl (by simp only [fwA, ↓reduceIte, Nat.reduceAdd, Nat.reduceMul, Nat.reduceEqDiff, Nat.reduceLT, Nat.reduceLeDiff, reduceCtorEq] <;> rfl) rfl rfl en23 h23N ⟨tleaf_le _ _ _ _ _, trivial⟩ ?_
  refine dops_run 4 (by simp only [fwA, ↓reduceIte, Nat.reduceAdd, Nat.reduceMul, Nat.reduceEqDiff, Nat.reduceLT, Nat.reduceLeDiff, reduceCtorEq, ti31, ti26, ti3, ti28, ti38, pl38, eq38, un34, un42, un62, ti9, fl31_5, fl31_1, ti29, un29, el29, el42, el34, pl31, Sh.fw, Ty.fw, hkA] <;> rfl) ?_
  refine dops_fn rfl (by simp only [fwA, ↓reduceIte, Nat.reduceAdd, Nat.reduceMul, Nat.reduceEqDiff, Nat.reduceLT, Nat.reduceLeDiff, reduceCtorEq] <;> rfl) rfl rfl en29 h29 ?_
  refine dops_run 2 (by simp only [fwA, ↓reduceIte, Nat.reduceAdd, Nat.reduceMul, Nat.reduceEqDiff, Nat.reduceLT, Nat.reduceLeDiff, reduceCtorEq, ti31, ti26, ti3, ti28, ti38, pl38, eq38, un34, un42, un62, ti9, fl31_5, fl31_1, ti29, un29, el29, el42, el34, pl31, Sh.fw, Ty.fw, hkA] <;> rfl) ?_
  refine dops_fn rfl (by simp only [fwA, ↓reduceIte, Nat.reduceAdd, Nat.reduceMul, Nat.reduceEqDiff, Nat.reduceLT, Nat.reduceLeDiff, reduceCtorEq] <;> rfl) rfl rfl en13 (c13 Γ intS intS) ?_
  refine dops_fn rfl (by simp only [fwA, ↓reduceIte, Nat.reduceAdd, Nat.reduceMul, Nat.reduceEqDiff, Nat.reduceLT, Nat.reduceLeDiff, reduceCtorEq] <;> rfl) rfl rfl en35 h35 ?_
  refine dops_run 5 (by simp only [fwA, ↓reduceIte, Nat.reduceAdd, Nat.reduceMul, Nat.reduceEqDiff, Nat.reduceLT, Nat.reduceLeDiff, reduceCtorEq, ti31, ti26, ti3, ti28, ti38, pl38, eq38, un34, un42, un62, ti9, fl31_5, fl31_1, ti29, un29, el29, el42, el34, pl31, Sh.fw, Ty.fw, hkA] <;> rfl) ?_
  refine dops_fnLe rfl (by simp only [fwA, ↓reduceIte, Nat.reduceAdd, Nat.reduceMul, Nat.reduceEqDiff, Nat.reduceLT, Nat.reduceLeDiff, reduceCtorEq] <;> rfl) rfl rfl en33 h33 ⟨PV.le_refl _, ⟨nofun, PV.leLL_refl _⟩, ⟨nofun, PV.leLL_refl _⟩, trivial⟩ ?_
  refine dops_run 7 (by simp only [fwA, ↓reduceIte, Nat.reduceAdd, Nat.reduceMul, Nat.reduceEqDiff, Nat.reduceLT, Nat.reduceLeDiff, reduceCtorEq, ti31, ti26, ti3, ti28, ti38, pl38, eq38, un34, un42, un62, ti9, fl31_5, fl31_1, ti29, un29, el29, el42, el34, pl31, Sh.fw, Ty.fw, hkA] <;> rfl) ?_
  refine dops_end ?_
  refine awp_ret ?_
  exact gives_end (.inl rfl) _ rfl

end Go.Proofs.YtlnffadolfkggaaDoor

/- The laws on fresh types and on renamings. -/
namespace Go.Proofs.YtlnffadolfkggaaDoor
set_option linter.unusedVariables false
set_option linter.unusedSimpArgs false
set_option maxRecDepth 100000
open Go.RowKit Fw

theorem cnt_gen (s : Sh) : s.cnt = ownN s.kind + (s.kids.map Sh.cnt).sum := by
  have h : ∀ l : List Sh, Sh.cnts l = (l.map Sh.cnt).sum := by
    intro l
    induction l with
    | nil => rfl
    | cons x l ih => rw [Sh.cnts, ih]; rfl
  cases s with | mk k m ks => rw [Sh.cnt, h]; rfl
theorem w_le_cnt : ∀ s : Sh, s.w ≤ s.cnt := by
  refine Sh.ind fun s ih => ?_
  rw [Sh.w_eq, cnt_gen]
  have h1 : 1 ≤ ownN s.kind := by unfold ownN; split <;> (try split) <;> omega
  have h2 : ∀ l : List Sh, (∀ k ∈ l, k.w ≤ k.cnt) → (l.map Sh.w).sum ≤ (l.map Sh.cnt).sum := by
    intro l
    induction l with
    | nil => intro _; simp
    | cons x l ihl =>
      intro h
      have a := h x (by simp)
      have b := ihl fun k hk => h k (by simp [hk])
      simp only [List.map_cons, List.sum_cons]
      omega
  have := h2 s.kids ih
  omega
theorem made_w {s : Sh} (h : Made s 62) : s.w ≤ 62 := by have := w_le_cnt s; have := h.cnt; omega
theorem fresh_of {s : Sh} (h : s.Right) {n : Int} (hn : 0 ≤ n) : freshOf s n = Ty.fresh s n := by unfold freshOf; rw [if_pos ⟨h, hn⟩]
theorem fresh_w {s : Sh} (h : Made s 62) (n : Int) : (Ty.fresh s n).1.w ≤ 62 := by
  rw [← w_shape, Ty.fresh_shape s n h.solid]; exact made_w h
theorem places_of {t : Ty} (h : t.Right) : placesOf t = t.places := by unfold placesOf; rw [if_pos h]
theorem shape_of {t : Ty} (h : t.Right) : shapeOf t = t.shape := by unfold shapeOf; rw [if_pos h]

/-- LtypeFresh -/
theorem c8 (Γ : Nat → PV) (hΓ : Tab Γ) (l : List Int) (h8 : ∀ x ∈ l, 0 ≤ x ∧ x < 256) (d : Int) (hd : 0 ≤ d) (hd2 : d < 65536) : Gives Tryd.prog Γ 8 [.vec (l.map fun n => [.int .u8 n]) false, .int .u16 d] (.bool true) := by
  have hm := madeF_ok l
  have h10 := c10 Γ l h8
  generalize madeF l = s at hm h10
  have hcn := hm.cnt
  have hw := made_w hm
  have hwc := w_le_cnt s
  have h11 := c11 Γ s (by omega) d
  rw [fresh_of hm.right hd] at h11
  obtain ⟨hp, hn⟩ := Ty.fresh_places s d hm.right hd (by omega)
  have hr := Ty.fresh_right s d hm.right
  have hsh := Ty.fresh_shape s d hm.solid
  have htw := fresh_w hm d
  rw [hn] at h11
  generalize (Ty.fresh s d).1 = T at h11 hp hr hsh htw
  have h19 := c19 Γ T (by omega)
  rw [places_of hr, hp] at h19
  have h23 := c23 Γ T
  rw [decide_eq_true hr] at h23
  have h29 := c29 Γ T
  rw [shape_of hr, hsh] at h29
  have h35 := c35 Γ s s
  rw [decide_eq_true rfl] at h35
  have h36 := c36 Γ s (by omega)
  have hwd : IntKind.i64.wrap d = d := wrapId ⟨by omega, by omega⟩
  have hul := upFrom_len d s.cnt
  refine fn_of_awp Tryd.func8 rfl (by simp [Tryd.f8]) rfl fun H => ?_
  refine awp_seq ?_
  refine awp_run rfl (by simp only [fwA, ↓reduceIte, Nat.reduceAdd, Nat.reduceMul, Nat.reduceEqDiff, Nat.reduceLT, Nat.reduceLeDiff, reduceCtorEq] <;> rfl) ?_
  refine awp_seq ?_
  -- region 1
  refine awp_region rfl ?_
  refine aops_fn rfl rfl rfl en9 (c9 Γ hΓ) ?_
  refine aops_run 1 (by simp only [fwA, ↓reduceIte, Nat.reduceAdd, Nat.reduceMul, Nat.reduceEqDiff, Nat.reduceLT, Nat.reduceLeDiff, reduceCtorEq] <;> rfl) ?_
  refine awp_seq ?_
  refine awp_seq ?_
  -- region 2
  refine awp_run rfl (by simp only [fwA, ↓reduceIte, Nat.reduceAdd, Nat.reduceMul, Nat.reduceEqDiff, Nat.reduceLT, Nat.reduceLeDiff, reduceCtorEq] <;> rfl) ?_
  refine awp_cond (by simp only [fwA, ↓reduceIte, Nat.reduceAdd, Nat.reduceMul, Nat.reduceEqDiff, Nat.reduceLT, Nat.reduceLeDiff, reduceCtorEq] <;> rfl) ?_
  refine awp_skip ?_
  refine awp_seq ?_
  -- region 4
  refine awp_region rfl ?_
  refine aops_run 1 (by simp only [fwA, ↓reduceIte, Nat.reduceAdd, Nat.reduceMul, Nat.reduceEqDiff, Nat.reduceLT, Nat.reduceLeDiff, reduceCtorEq] <;> rfl) ?_
  refine aops_fn rfl rfl rfl en10 h10 ?_
  refine aops_run 2 (by simp only [fwA, ↓reduceIte, Nat.reduceAdd, Nat.reduceMul, Nat.reduceEqDiff, Nat.reduceLT, Nat.reduceLeDiff, reduceCtorEq, ti31, ti26, ti3, ti28, un76, un3, un42, el42, fl31_1, Sh.fw, Ty.fw] <;> rfl) ?_
  refine awp_seq ?_
  -- region 5
  refine awp_region rfl ?_
  refine aops_run 3 (by simp only [fwA, ↓reduceIte, Nat.reduceAdd, Nat.reduceMul, Nat.reduceEqDiff, Nat.reduceLT, Nat.reduceLeDiff, reduceCtorEq, ti31, ti26, ti3, ti28, un76, un3, un42, el42, fl31_1, Sh.fw, Ty.fw, hwd] <;> rfl) ?_
  refine aops_fn rfl rfl rfl en11 h11 ?_
  refine aops_run 6 (by simp only [fwA, ↓reduceIte, Nat.reduceAdd, Nat.reduceMul, Nat.reduceEqDiff, Nat.reduceLT, Nat.reduceLeDiff, reduceCtorEq, ti31, ti26, ti3, ti28, un76, un3, un42, el42, fl31_1, Sh.fw, Ty.fw] <;> rfl) ?_
  refine awp_seq ?_
  -- region 6
  refine awp_region rfl ?_
  refine aops_run 1 (by simp only [fwA, ↓reduceIte, Nat.reduceAdd, Nat.reduceMul, Nat.reduceEqDiff, Nat.reduceLT, Nat.reduceLeDiff, reduceCtorEq, ti31, ti26, ti3, ti28, un76, un3, un42, el42, fl31_1, Sh.fw, Ty.fw] <;> rfl) ?_
  refine aops_fn rfl rfl rfl en19 h19 ?_
  refine aops_run 1 (by simp only [fwA, ↓reduceIte, Nat.reduceAdd, Nat.reduceMul, Nat.reduceEqDiff, Nat.reduceLT, Nat.reduceLeDiff, reduceCtorEq] <;> rfl) ?_
  refine awp_keep (A' := [(1, .int .u16 d), (5, .bool true), (6, .ptr H.length 0), (7, .ptr (H.length + 1) 0), (8, .int .i64 (d + s.cnt)), (9, .vec ((upFrom d s.cnt).map I1) false)]) [1, 5, 6, 7, 8, 9] (by simp [akeep, alook, aput, ev]) ?_
  refine awp_heap (H' := H ++ [.box s.enc, .box T.enc]) (by simp) ?_
  refine awp_seq ?_
  refine awp_seq ?_
  -- region 7
  refine awp_run rfl (by simp only [fwA, ↓reduceIte, Nat.reduceAdd, Nat.reduceMul, Nat.reduceEqDiff, Nat.reduceLT, Nat.reduceLeDiff, reduceCtorEq] <;> rfl) ?_
  refine awp_block ?_
  refine awp_for [1, 5, 6, 7, 8, 9, 10] (fun i : Nat => [.int .u16 d, .bool true, .ptr H.length 0, .ptr (H.length + 1) 0, .int .i64 (d + s.cnt), .vec ((upFrom d s.cnt).map I1) false, .int .i64 (i : Int)]) (fun _ => H ++ [.box s.enc, .box T.enc]) (fun i => s.cnt - i) (fun i => i ≤ s.cnt) 0 rfl rfl (Nat.zero_le _) fun i hi => ?_
  refine awp_seq ?_
  refine awp_seq ?_
  -- region 8
  refine awp_run rfl (by simp only [fwA, ↓reduceIte, Nat.reduceAdd, Nat.reduceMul, Nat.reduceEqDiff, Nat.reduceLT, Nat.reduceLeDiff, reduceCtorEq, ti31, ti26, ti3, ti28, un76, un3, un42, el42, fl31_1, Sh.fw, Ty.fw, List.length_map, hul] <;> rfl) ?_
  refine awp_cond (by simp only [fwA, ↓reduceIte, Nat.reduceAdd, Nat.reduceMul, Nat.reduceEqDiff, Nat.reduceLT, Nat.reduceLeDiff, reduceCtorEq] <;> rfl) ?_
  by_cases hc : (i : Int) < s.cnt
  rotate_left
  · simp only [hc, decide_false, Bool.false_eq_true, ↓reduceIte]
    refine awp_exit ?_
    refine awp_seq ?_
    have hwe : IntKind.i64.wrap (d + s.cnt) = d + s.cnt := wrapId ⟨by omega, by omega⟩
    have hge : (s.w : Int) ≤ s.cnt := by omega
    -- region 12 drawn
    refine awp_drawn [0, 0, 1, 0, 0, 0, 1, 0, 1, 0, 0, 0, 0, 0, 0, 0, 0, 0, 0, 0, 0, 0, 0, 1, 0, 0, 0, 0] [0, 1, 3, 7, 15, 31, 63, 127, 63, 511, 1023, 2047, 4095, 4095, 12287, 4095, 36863, 126975, 262143, 524287, 1048575, 2097151, 4194303, 2097151, 10485759, 33554431, 67108863, 134217727] mixed rfl (by kernel_rfl) ?_
    refine dops_run 3 (by simp only [fwA, ↓reduceIte, Nat.reduceAdd, Nat.reduceMul, Nat.reduceEqDiff, Nat.reduceLT, Nat.reduceLeDiff, reduceCtorEq, ti31, ti26, ti3, ti28, un76, un3, un42, el42, fl31_1, Sh.fw, Ty.fw] <;> rfl) ?_
    refine dops_fn rfl (by simp only [fwA, ↓reduceIte, Nat.reduceAdd, Nat.reduceMul, Nat.reduceEqDiff, Nat.reduceLT, Nat.reduceLeDiff, reduceCtorEq] <;> rfl) rfl rfl en23 h23 ?_
    refine dops_run 3 (by simp only [fwA, ↓reduceIte, Nat.reduceAdd, Nat.reduceMul, Nat.reduceEqDiff, Nat.reduceLT, Nat.reduceLeDiff, reduceCtorEq, ti31, ti26, ti3, ti28, un76, un3, un42, el42, fl31_1, Sh.fw, Ty.fw] <;> rfl) ?_
    refine dops_fn rfl (by simp only [fwA, ↓reduceIte, Nat.reduceAdd, Nat.reduceMul, Nat.reduceEqDiff, Nat.reduceLT, Nat.reduceLeDiff, reduceCtorEq] <;> rfl) rfl rfl en29 h29 ?_
    refine dops_run 1 (by simp only [fwA, ↓reduceIte, Nat.reduceAdd, Nat.reduceMul, Nat.reduceEqDiff, Nat.reduceLT, Nat.reduceLeDiff, reduceCtorEq, ti31, ti26, ti3, ti28, un76, un3, un42, el42, fl31_1, Sh.fw, Ty.fw] <;> rfl) ?_
    refine dops_fn rfl (by simp only [fwA, ↓reduceIte, Nat.reduceAdd, Nat.reduceMul, Nat.reduceEqDiff, Nat.reduceLT, Nat.reduceLeDiff, reduceCtorEq] <;> rfl) rfl rfl en35 h35 ?_
    refine dops_run 14 (by simp only [fwA, ↓reduceIte, Nat.reduceAdd, Nat.reduceMul, Nat.reduceEqDiff, Nat.reduceLT, Nat.reduceLeDiff, reduceCtorEq, ti31, ti26, ti3, ti28, un76, un3, un42, el42, fl31_1, Sh.fw, Ty.fw, hwd, List.length_map, hul, hwe, decide_true] <;> rfl) ?_
    refine dops_fn rfl (by simp only [fwA, ↓reduceIte, Nat.reduceAdd, Nat.reduceMul, Nat.reduceEqDiff, Nat.reduceLT, Nat.reduceLeDiff, reduceCtorEq] <;> rfl) rfl rfl en36 h36 ?_
    refine dops_run 3 (by simp only [fwA, ↓reduceIte, Nat.reduceAdd, Nat.reduceMul, Nat.reduceEqDiff, Nat.reduceLT, Nat.reduceLeDiff, reduceCtorEq, ti31, ti26, ti3, ti28, un76, un3, un42, el42, fl31_1, Sh.fw, Ty.fw, ge_iff_le, hge, decide_true] <;> rfl) ?_
    refine dops_end ?_
    refine awp_ret ?_
    exact gives_end (.inl rfl) _ rfl
  simp only [hc, decide_true, ↓reduceIte]
  refine awp_skip ?_
  have hia : i < s.cnt := by omega
  have ga := upFrom_get d s.cnt i hia
  have hwi : IntKind.i64.wrap (d + (i : Int)) = d + i := wrapId ⟨by omega, by omega⟩
  refine awp_seq ?_
  refine awp_block ?_
  refine awp_seq ?_
  -- region 10
  refine awp_run rfl (by simp only [fwA, ↓reduceIte, Nat.reduceAdd, Nat.reduceMul, Nat.reduceEqDiff, Nat.reduceLT, Nat.reduceLeDiff, reduceCtorEq, ti31, ti26, ti3, ti28, un76, un3, un42, el42, fl31_1, Sh.fw, Ty.fw, List.getElem?_map, ga, Option.map_some, Int.natCast_nonneg, I1_fw, hwd, hwi] <;> rfl) ?_
  refine awp_cond (b := false) (by simp [alook, aput, ev]) ?_
  refine awp_skip ?_
  -- region 9
  refine awp_run rfl (by simp only [fwA, ↓reduceIte, Nat.reduceAdd, Nat.reduceMul, Nat.reduceEqDiff, Nat.reduceLT, Nat.reduceLeDiff, reduceCtorEq] <;> rfl) ?_
  exact ⟨i + 1, by omega, by omega, by rw [wrapS i (by omega)]; rfl, rfl, rfl⟩

theorem outer_right {t : Ty} (h : t.Right) (l : Int) : (outer t l).Right := .mk _ h.node h.kids
theorem outer_shape (t : Ty) (l : Int) : (outer t l).shape = t.shape := by rw [Ty.shape_eq, Ty.shape_eq]; rfl
theorem outer_w (t : Ty) (l : Int) : (outer t l).w = t.w := by rw [← w_shape, outer_shape, w_shape]
theorem outer_places (t : Ty) (l : Int) : ∃ r, (outer t l).places = l :: r := ⟨_, by rw [Ty.places_eq]; rfl⟩
theorem outer_back (t : Ty) (l : Int) : outer (outer t l) t.l = t := by cases t; rfl

/-- LtypeRenames -/
theorem c6 (Γ : Nat → PV) (hΓ : Tab Γ) (l : List Int) (h8 : ∀ x ∈ l, 0 ≤ x ∧ x < 256) (d : Int) (hd : 0 ≤ d) (hd2 : d < 65536) : Gives Tryd.prog Γ 6 [.vec (l.map fun n => [.int .u8 n]) false, .int .u16 d] (.bool true) := by
  have hm := madeF_ok l
  have h10 := c10 Γ l h8
  generalize madeF l = s at hm h10
  have hcn := hm.cnt
  have hw := made_w hm
  have h11 := c11 Γ s (by omega) 0
  have h11d := c11 Γ s (by omega) (s.cnt + d)
  rw [fresh_of hm.right (by decide)] at h11
  rw [fresh_of hm.right (by omega)] at h11d
  have hn := (Ty.fresh_places s 0 hm.right (by decide) (by omega)).2
  rw [hn, Int.zero_add] at h11
  have hrf := ren_fresh hm.right (d := s.cnt + d) (by omega) (by omega)
  have hrb := ren_back hm.right (d := s.cnt + d) (by omega) (by omega)
  have hr0 := Ty.fresh_right s 0 hm.right
  have hr1 := Ty.fresh_right s (s.cnt + d) hm.right
  have hs0 := Ty.fresh_shape s 0 hm.solid
  have hw0 := fresh_w hm 0
  have hw1 := fresh_w hm (s.cnt + d)
  have hwd : IntKind.i64.wrap d = d := wrapId ⟨by omega, by omega⟩
  have hwe : IntKind.i64.wrap ((s.cnt : Int) + d) = s.cnt + d := wrapId ⟨by omega, by omega⟩
  generalize (Ty.fresh s 0).1 = T at h11 hrf hrb hr0 hs0 hw0
  generalize hRd : Ty.fresh s (s.cnt + d) = R at h11d hrf hrb hr1 hw1
  obtain ⟨U, nU⟩ := R
  dsimp only at h11d hrf hrb hr1 hw1
  have h19T := c19 Γ T (by omega)
  have h19U := c19 Γ U (by omega)
  rw [places_of hr0] at h19T
  rw [places_of hr1] at h19U
  have h33a := c33 Γ T.places U.places T (by omega)
  have h33b := c33 Γ U.places T.places U (by omega)
  rw [hrf] at h33a
  rw [hrb] at h33b
  have h31 := c31 Γ T (-1)
  have h31b := c31 Γ (outer T (-1)) T.l
  rw [outer_back] at h31b
  have h19O := c19 Γ (outer T (-1)) (by rw [outer_w]; omega)
  rw [places_of (outer_right hr0 _)] at h19O
  obtain ⟨ps, hps⟩ := outer_places T (-1)
  rw [hps] at h19O
  have h29 := c29 Γ (outer T (-1))
  rw [shape_of (outer_right hr0 _), outer_shape, hs0] at h29
  have h35 := c35 Γ s s
  rw [decide_eq_true rfl] at h35
  have h25U := c25 Γ U U
  rw [decide_eq_true rfl] at h25U
  have h25T := c25 Γ T T
  rw [decide_eq_true rfl] at h25T
  generalize outer T (-1) = O at h31 h31b h19O h29
  refine fn_of_awp Tryd.func6 rfl (by simp [Tryd.f6]) rfl fun H => ?_
  refine awp_seq ?_
  refine awp_run rfl (by simp only [fwA, ↓reduceIte, Nat.reduceAdd, Nat.reduceMul, Nat.reduceEqDiff, Nat.reduceLT, Nat.reduceLeDiff, reduceCtorEq] <;> rfl) ?_
  refine awp_seq ?_
  -- region 1
  refine awp_region rfl ?_
  refine aops_fn rfl rfl rfl en9 (c9 Γ hΓ) ?_
  refine aops_run 1 (by simp only [fwA, ↓reduceIte, Nat.reduceAdd, Nat.reduceMul, Nat.reduceEqDiff, Nat.reduceLT, Nat.reduceLeDiff, reduceCtorEq] <;> rfl) ?_
  refine awp_seq ?_
  refine awp_seq ?_
  -- region 2
  refine awp_run rfl (by simp only [fwA, ↓reduceIte, Nat.reduceAdd, Nat.reduceMul, Nat.reduceEqDiff, Nat.reduceLT, Nat.reduceLeDiff, reduceCtorEq] <;> rfl) ?_
  refine awp_cond (by simp only [fwA, ↓reduceIte, Nat.reduceAdd, Nat.reduceMul, Nat.reduceEqDiff, Nat.reduceLT, Nat.reduceLeDiff, reduceCtorEq] <;> rfl) ?_
  refine awp_skip ?_
  refine awp_seq ?_
  -- region 4
  refine awp_region rfl ?_
  refine aops_run 1 (by simp only [fwA, ↓reduceIte, Nat.reduceAdd, Nat.reduceMul, Nat.reduceEqDiff, Nat.reduceLT, Nat.reduceLeDiff, reduceCtorEq] <;> rfl) ?_
  refine aops_fn rfl rfl rfl en10 h10 ?_
  refine aops_run 2 (by simp only [fwA, ↓reduceIte, Nat.reduceAdd, Nat.reduceMul, Nat.reduceEqDiff, Nat.reduceLT, Nat.reduceLeDiff, reduceCtorEq, ti31, ti26, ti3, ti28, un76, un3, un42, el42, fl31_1, Sh.fw, Ty.fw] <;> rfl) ?_
  refine awp_seq ?_
  -- region 5
  refine awp_region rfl ?_
  refine aops_run 1 (by simp only [fwA, ↓reduceIte, Nat.reduceAdd, Nat.reduceMul, Nat.reduceEqDiff, Nat.reduceLT, Nat.reduceLeDiff, reduceCtorEq, ti31, ti26, ti3, ti28, un76, un3, un42, el42, fl31_1, Sh.fw, Ty.fw] <;> rfl) ?_
  refine aops_fn rfl rfl rfl en11 h11 ?_
  refine aops_run 6 (by simp only [fwA, ↓reduceIte, Nat.reduceAdd, Nat.reduceMul, Nat.reduceEqDiff, Nat.reduceLT, Nat.reduceLeDiff, reduceCtorEq, ti31, ti26, ti3, ti28, un76, un3, un42, el42, fl31_1, Sh.fw, Ty.fw] <;> rfl) ?_
  refine awp_seq ?_
  -- region 6
  refine awp_region rfl ?_
  refine aops_run 5 (by simp only [fwA, ↓reduceIte, Nat.reduceAdd, Nat.reduceMul, Nat.reduceEqDiff, Nat.reduceLT, Nat.reduceLeDiff, reduceCtorEq, ti31, ti26, ti3, ti28, un76, un3, un42, el42, fl31_1, Sh.fw, Ty.fw, hwd, hwe] <;> rfl) ?_
  refine aops_fn rfl rfl rfl en11 h11d ?_
  refine aops_run 6 (by simp only [fwA, ↓reduceIte, Nat.reduceAdd, Nat.reduceMul, Nat.reduceEqDiff, Nat.reduceLT, Nat.reduceLeDiff, reduceCtorEq, ti31, ti26, ti3, ti28, un76, un3, un42, el42, fl31_1, Sh.fw, Ty.fw] <;> rfl) ?_
  refine awp_keep (A' := [(5, .bool true), (6, .ptr H.length 0), (7, .ptr (H.length + 1) 0), (9, .ptr (H.length + 2) 0)]) [5, 6, 7, 9] (by simp [akeep, alook, aput, ev]) ?_
  refine awp_heap (H' := H ++ [.box s.enc, .box T.enc, .box U.enc]) (by simp) ?_
  refine awp_seq ?_
  -- region 7 drawn
  refine awp_drawn [4, 4, 0, 4, 0, 0, 3, 2] [0, 0, 2, 0, 14, 31, 0, 127] mixed rfl (by kernel_rfl) ?_
  refine dops_run 2 (by simp only [fwA, ↓reduceIte, Nat.reduceAdd, Nat.reduceMul, Nat.reduceEqDiff, Nat.reduceLT, Nat.reduceLeDiff, reduceCtorEq, ti31, ti26, ti3, ti28, un76, un3, un42, el42, fl31_1, Sh.fw, Ty.fw, View.vw, List.take_length] <;> rfl) ?_
  refine dops_fn rfl rfl rfl rfl en19 h19T ?_
  refine dops_run 1 (by simp only [fwA, ↓reduceIte, Nat.reduceAdd, Nat.reduceMul, Nat.reduceEqDiff, Nat.reduceLT, Nat.reduceLeDiff, reduceCtorEq, ti31, ti26, ti3, ti28, un76, un3, un42, el42, fl31_1, Sh.fw, Ty.fw, View.vw, List.take_length] <;> rfl) ?_
  refine dops_fn rfl rfl rfl rfl en19 h19U ?_
  refine dops_fn rfl rfl rfl rfl en33 h33a ?_
  refine dops_make1 rfl rfl (by simp only [fwA, ↓reduceIte, Nat.reduceAdd, Nat.reduceMul, Nat.reduceEqDiff, Nat.reduceLT, Nat.reduceLeDiff, reduceCtorEq, ti31] <;> rfl) (by simp [View.vw, List.take_append]) ?_
  refine dops_run 1 (by simp only [fwA, ↓reduceIte, Nat.reduceAdd, Nat.reduceMul, Nat.reduceEqDiff, Nat.reduceLT, Nat.reduceLeDiff, reduceCtorEq, ti31, ti26, ti3, ti28, un76, un3, un42, el42, fl31_1, Sh.fw, Ty.fw] <;> rfl) ?_
  refine dops_end ?_
  refine awp_seq ?_
  -- region 8
  refine awp_region rfl ?_
  refine aops_run 1 (by simp only [fwA, ↓reduceIte, Nat.reduceAdd, Nat.reduceMul, Nat.reduceEqDiff, Nat.reduceLT, Nat.reduceLeDiff, reduceCtorEq, ti31, ti26, ti3, ti28, un76, un3, un42, el42, fl31_1, Sh.fw, Ty.fw] <;> rfl) ?_
  refine aops_fn rfl rfl rfl en31 h31 ?_
  refine aops_run 2 (by simp only [fwA, ↓reduceIte, Nat.reduceAdd, Nat.reduceMul, Nat.reduceEqDiff, Nat.reduceLT, Nat.reduceLeDiff, reduceCtorEq, ti31, ti26, ti3, ti28, un76, un3, un42, el42, fl31_1, Sh.fw, Ty.fw] <;> rfl) ?_
  refine awp_seq ?_
  -- region 9
  refine awp_region rfl ?_
  refine aops_run 1 (by simp only [fwA, ↓reduceIte, Nat.reduceAdd, Nat.reduceMul, Nat.reduceEqDiff, Nat.reduceLT, Nat.reduceLeDiff, reduceCtorEq, ti31, ti26, ti3, ti28, un76, un3, un42, el42, fl31_1, Sh.fw, Ty.fw] <;> rfl) ?_
  refine aops_fn rfl rfl rfl en19 h19O ?_
  refine aops_run 1 (by simp only [fwA, ↓reduceIte, Nat.reduceAdd, Nat.reduceMul, Nat.reduceEqDiff, Nat.reduceLT, Nat.reduceLeDiff, reduceCtorEq] <;> rfl) ?_
  refine awp_keep (A' := [(5, .bool true), (6, .ptr H.length 0), (7, .ptr (H.length + 1) 0), (9, .ptr (H.length + 2) 0), (11, .ptr (H.length + 3) 0), (12, .ptr (H.length + 4) 0), (13, .vec ([.int .i64 (-1)] :: ps.map I1) false)]) [5, 6, 7, 9, 11, 12, 13] (by simp [akeep, alook, aput, ev, I1]) ?_
  refine awp_heap (H' := H ++ [.box s.enc, .box T.enc, .box U.enc, .box U.enc, .box O.enc]) (by simp) ?_
  refine awp_seq ?_
  refine awp_seq ?_
  -- region 10
  have hne : ¬((ps.length : Int) + 1 = 0) := by omega
  refine awp_run rfl (by simp only [fwA, ↓reduceIte, Nat.reduceAdd, Nat.reduceMul, Nat.reduceEqDiff, Nat.reduceLT, Nat.reduceLeDiff, reduceCtorEq, ti31, ti26, ti3, ti28, un76, un3, un42, el42, fl31_1, Sh.fw, Ty.fw, List.length_cons, List.length_map, Int.natCast_add, Int.natCast_one, Int.natCast_succ, hne, decide_false, List.getElem?_cons_zero, Int.toNat_zero, Int.le_refl] <;> rfl) ?_
  refine awp_cond (by simp only [fwA, ↓reduceIte, Nat.reduceAdd, Nat.reduceMul, Nat.reduceEqDiff, Nat.reduceLT, Nat.reduceLeDiff, reduceCtorEq] <;> rfl) ?_
  refine awp_skip ?_
  refine awp_seq ?_
  -- region 12 drawn
  refine awp_drawn [0, 0, 1, 1, 0, 0, 0, 1, 1, 0, 1, 0, 0, 1, 0, 0, 0, 1, 0, 1, 0, 0, 0, 1, 0, 1, 0, 1, 0, 0, 0] [0, 1, 3, 3, 15, 31, 63, 127, 127, 383, 127, 1919, 4095, 127, 16383, 32767, 65535, 131071, 262143, 131071, 1048575, 2097151, 4194303, 8388607, 8388607, 25165823, 67108863, 8388607, 268435455, 536870911, 1073741823] mixed rfl (by kernel_rfl) ?_
  refine dops_run 4 (by simp only [fwA, ↓reduceIte, Nat.reduceAdd, Nat.reduceMul, Nat.reduceEqDiff, Nat.reduceLT, Nat.reduceLeDiff, reduceCtorEq, ti31, ti26, ti3, ti28, un76, un3, un42, el42, fl31_1, Sh.fw, Ty.fw] <;> rfl) ?_
  refine dops_fn rfl (by simp only [fwA, ↓reduceIte, Nat.reduceAdd, Nat.reduceMul, Nat.reduceEqDiff, Nat.reduceLT, Nat.reduceLeDiff, reduceCtorEq] <;> rfl) rfl rfl en25 h25U ?_
  refine dops_run 4 (by simp only [fwA, ↓reduceIte, Nat.reduceAdd, Nat.reduceMul, Nat.reduceEqDiff, Nat.reduceLT, Nat.reduceLeDiff, reduceCtorEq, ti31, ti26, ti3, ti28, un76, un3, un42, el42, fl31_1, Sh.fw, Ty.fw] <;> rfl) ?_
  refine dops_fn rfl (by simp only [fwA, ↓reduceIte, Nat.reduceAdd, Nat.reduceMul, Nat.reduceEqDiff, Nat.reduceLT, Nat.reduceLeDiff, reduceCtorEq] <;> rfl) rfl rfl en19 h19U ?_
  refine dops_run 1 (by simp only [fwA, ↓reduceIte, Nat.reduceAdd, Nat.reduceMul, Nat.reduceEqDiff, Nat.reduceLT, Nat.reduceLeDiff, reduceCtorEq, ti31, ti26, ti3, ti28, un76, un3, un42, el42, fl31_1, Sh.fw, Ty.fw] <;> rfl) ?_
  refine dops_fn rfl (by simp only [fwA, ↓reduceIte, Nat.reduceAdd, Nat.reduceMul, Nat.reduceEqDiff, Nat.reduceLT, Nat.reduceLeDiff, reduceCtorEq] <;> rfl) rfl rfl en19 h19T ?_
  refine dops_fn rfl (by simp only [fwA, ↓reduceIte, Nat.reduceAdd, Nat.reduceMul, Nat.reduceEqDiff, Nat.reduceLT, Nat.reduceLeDiff, reduceCtorEq] <;> rfl) rfl rfl en33 h33b ?_
  refine dops_run 1 (by simp only [fwA, ↓reduceIte, Nat.reduceAdd, Nat.reduceMul, Nat.reduceEqDiff, Nat.reduceLT, Nat.reduceLeDiff, reduceCtorEq, ti31, ti26, ti3, ti28, un76, un3, un42, el42, fl31_1, Sh.fw, Ty.fw] <;> rfl) ?_
  refine dops_fn rfl (by simp only [fwA, ↓reduceIte, Nat.reduceAdd, Nat.reduceMul, Nat.reduceEqDiff, Nat.reduceLT, Nat.reduceLeDiff, reduceCtorEq] <;> rfl) rfl rfl en25 h25T ?_
  refine dops_run 3 (by simp only [fwA, ↓reduceIte, Nat.reduceAdd, Nat.reduceMul, Nat.reduceEqDiff, Nat.reduceLT, Nat.reduceLeDiff, reduceCtorEq, ti31, ti26, ti3, ti28, un76, un3, un42, el42, fl31_1, Sh.fw, Ty.fw] <;> rfl) ?_
  refine dops_fn rfl (by simp only [fwA, ↓reduceIte, Nat.reduceAdd, Nat.reduceMul, Nat.reduceEqDiff, Nat.reduceLT, Nat.reduceLeDiff, reduceCtorEq] <;> rfl) rfl rfl en29 h29 ?_
  refine dops_run 1 (by simp only [fwA, ↓reduceIte, Nat.reduceAdd, Nat.reduceMul, Nat.reduceEqDiff, Nat.reduceLT, Nat.reduceLeDiff, reduceCtorEq, ti31, ti26, ti3, ti28, un76, un3, un42, el42, fl31_1, Sh.fw, Ty.fw] <;> rfl) ?_
  refine dops_fn rfl (by simp only [fwA, ↓reduceIte, Nat.reduceAdd, Nat.reduceMul, Nat.reduceEqDiff, Nat.reduceLT, Nat.reduceLeDiff, reduceCtorEq] <;> rfl) rfl rfl en35 h35 ?_
  refine dops_run 5 (by simp only [fwA, ↓reduceIte, Nat.reduceAdd, Nat.reduceMul, Nat.reduceEqDiff, Nat.reduceLT, Nat.reduceLeDiff, reduceCtorEq, ti31, ti26, ti3, ti28, un76, un3, un42, el42, fl31_1, Sh.fw, Ty.fw] <;> rfl) ?_
  refine dops_fn rfl (by simp only [fwA, ↓reduceIte, Nat.reduceAdd, Nat.reduceMul, Nat.reduceEqDiff, Nat.reduceLT, Nat.reduceLeDiff, reduceCtorEq] <;> rfl) rfl rfl en31 h31b ?_
  refine dops_run 1 (by simp only [fwA, ↓reduceIte, Nat.reduceAdd, Nat.reduceMul, Nat.reduceEqDiff, Nat.reduceLT, Nat.reduceLeDiff, reduceCtorEq, ti31, ti26, ti3, ti28, un76, un3, un42, el42, fl31_1, Sh.fw, Ty.fw] <;> rfl) ?_
  refine dops_fn rfl (by simp only [fwA, ↓reduceIte, Nat.reduceAdd, Nat.reduceMul, Nat.reduceEqDiff, Nat.reduceLT, Nat.reduceLeDiff, reduceCtorEq] <;> rfl) rfl rfl en25 h25T ?_
  refine dops_run 2 (by simp only [fwA, ↓reduceIte, Nat.reduceAdd, Nat.reduceMul, Nat.reduceEqDiff, Nat.reduceLT, Nat.reduceLeDiff, reduceCtorEq] <;> rfl) ?_
  refine dops_end ?_
  refine awp_ret ?_
  exact gives_end (.inl rfl) _ rfl

end Go.Proofs.YtlnffadolfkggaaDoor
