/- The law on what stands the other way round. -/
import Derived.Test.YtlnffadolfkggaaDoorWH
import Derived.Test.YtlnffadolfkggaaDoorWJ
namespace Go.Proofs.YtlnffadolfkggaaDoor
set_option linter.unusedVariables false
set_option linter.unusedSimpArgs false
set_option maxRecDepth 100000
open Go.RowKit Fw

/-- A call that turns blocks, in a drawn region. -/
theorem dops_tcall {P : Program} {Γ : Nat → PV} {ops : Array Oper} {cls : List Nat} {n0 : View} {K : List (Nat × PV) → List Blk → Prop} {i : Nat} {o : Oper} {rest : List (Nat × Oper)} {A : List (Nat × PV)} {H : List Blk} {x : Operand} {args : Array Operand} {ts : Array TypeId} {f : FuncId} {fs cs : List PV} {p : PV} {H' : List Blk}
    (ho : o.op = .call { callee := .value x, args := args, argTypes := ts }) (hw : wantA ops A o = some true) (hc : cls.getD i 0 = 2) (hx : ev Γ A x = .func (.func f) fs cs) (he : Enters P f)
    (h : ACalls P Γ f (fs ++ args.toList.map (ev Γ A) ++ cs) H (fun q H1 => q = p ∧ H1 = H')) (hk : DOps P Γ ops cls n0 K rest (aput A o.dst p) H') : DOps P Γ ops cls n0 K ((i, o) :: rest) A H :=
  dops_turns p hw hc (fun A' hev => by
    have hops : ∀ y, y = x ∨ y ∈ args → ev Γ A' y = ev Γ A y := fun y hy => hev y (by
      rw [ho]
      simp only [Op.operands, Call.operands, Array.mem_append]
      rcases hy with rfl | hy
      · exact .inl (by simp)
      · exact .inr hy)
    refine os_call ho (by rw [hops x (.inl rfl)]; exact hx) he ?_
    rw [List.map_congr_left (l := args.toList) fun y hy => hops y (.inr (by simpa using hy))]
    exact h) hk

/-- Elements behind the row that is set apart. -/
theorem dops_appendX {P : Program} {Γ : Nat → PV} {ops : Array Oper} {cls : List Nat} {n0 : View} {K : List (Nat × PV) → List Blk → Prop} {i : Nat} {o : Oper} {rest : List (Nat × Oper)} {A : List (Nat × PV)} {H : List Blk} {x y : Operand} {t tx e e' : TypeId} {ti : TI} {b q k : Nat} {cs : List PV} {fs : List (List PV)} {fl : Bool} (ho : o.op = .call { callee := .builtin .append, args := #[x, y], argTypes := #[t, tx] })
    (hw : wantA ops A o = some true) (hc : cls.getD i 0 = 5) (ht : P.underlying t = some (.slice e)) (he : tiOf P e = some ti) (htx : P.underlying tx = some (.slice e')) (hx : ev Γ A x = .row b q k ti.size) (hbk : H[b]? = some (.row ti.size cs)) (hl : cs.length = q + k * ti.size)
    (hy : ev Γ A y = .vec fs fl) (hfs : ∀ e ∈ fs, e.length = ti.size) (hbd : (k + fs.length) * ti.bytes ≤ 140737488355328) (hbd' : k + fs.length ≤ 9223372036854775807) (h1 : n0.x = some b) (h2 : b < n0.n)
    (hk : DOps P Γ ops cls n0 K rest (aput A o.dst (.row b q (k + fs.length) ti.size)) (H.set b (.row ti.size (cs ++ fs.flatten)))) : DOps P Γ ops cls n0 K ((i, o) :: rest) A H := by
  refine ⟨_, _, ?_, hk⟩
  unfold DOne
  rw [hw, hc]
  refine ⟨b, _, h1, h2, (List.getElem?_eq_some_iff.1 hbk).1, rfl, fun H2 k1 k2 => dlift fun A' hev => ?_⟩
  have ex := (hev x (call_ops ho (by simp))).trans hx
  have ey := (hev y (call_ops ho (by simp))).trans hy
  exact os_appendR ho ht he htx (.inl ⟨e', rfl⟩) ex (k2.trans hbk) hl (by rw [ey]; rfl) (fun es f h => by rw [ey] at h; cases h; exact hfs) (by rw [ey]; rfl) hbd hbd' ⟨rfl, rfl⟩

/-- Elements of a row behind a slice without room. -/
theorem dops_appendVR {P : Program} {Γ : Nat → PV} {ops : Array Oper} {cls : List Nat} {n0 : View} {K : List (Nat × PV) → List Blk → Prop} {i : Nat} {o : Oper} {rest : List (Nat × Oper)} {A : List (Nat × PV)} {H : List Blk} {x y : Operand} {t tx e e' : TypeId} {ti : TI} {b q k : Nat} {cs : List PV} {es : List (List PV)} (ho : o.op = .call { callee := .builtin .append, args := #[x, y], argTypes := #[t, tx] })
    (hw : wantA ops A o = some true) (hc : cls.getD i 0 = 1) (ht : P.underlying t = some (.slice e)) (he : tiOf P e = some ti) (htx : P.underlying tx = some (.slice e')) (hx : ev Γ A x = .vec es true) (hes : ∀ e ∈ es, e.length = ti.size)
    (hy : ev Γ A y = .row b q k ti.size) (hbk : H[b]? = some (.row ti.size cs)) (hl : cs.length = q + k * ti.size) (hpl : PV.plainL (cs.drop q) = true) (hbd : (es.length + k) * ti.bytes ≤ 140737488355328) (hbd' : es.length + k ≤ 9223372036854775807)
    (hk : DOps P Γ ops cls n0 K rest (aput A o.dst (.vec (es ++ chunk ti.size k (cs.drop q)) false)) H) : DOps P Γ ops cls n0 K ((i, o) :: rest) A H :=
  dops_reads _ hw hc (fun A' hev => by
    have ex := (hev x (call_ops ho (by simp))).trans hx
    have ey := (hev y (call_ops ho (by simp))).trans hy
    exact os_appendV ho ht he htx (.inl ⟨e', rfl⟩) ex hes (by rw [ey]; simp only [srcOf, hbk, hl, hpl, and_self, if_pos]) (fun es f h => by rw [ey] at h; cases h) (by rw [ey]; rfl) hbd hbd' ⟨rfl, rfl⟩) hk

theorem subN_deep (n : Nat) : ∀ (m : Nat) (a b : Ty), a.Right → b.Right → a.shape = b.shape → a.w ≤ n → a.w ≤ m → subN n a b = subN m a b := by
  induction n with
  | zero => intro m a b _ _ _ h; have := Ty.w_pos a; omega
  | succ n ih =>
    intro m a b ha hb hs h1 h2
    cases m with
    | zero => have := Ty.w_pos a; omega
    | succ m =>
      rw [subN_eq, subN_eq]
      by_cases k : a.kind = 3
      · have kb : b.kind = 3 := by rw [← kind_shape hs]; exact k
        have la := kids_two ha k
        have lb := kids_two hb kb
        have wa := Ty.w_two la
        have s0 := kid_shape hs 0
        have s1 := kid_shape hs 1
        have e0 := w_same s0
        rw [if_pos k, if_pos k, ih m (kid b 0) (kid a 0) (hb.kids _ (kid_mem (by omega))) (ha.kids _ (kid_mem (by omega))) s0.symm (by omega) (by omega),
          ih m (kid a 1) (kid b 1) (ha.kids _ (kid_mem (by omega))) (hb.kids _ (kid_mem (by omega))) s1 (by omega) (by omega)]
      · rw [if_neg k, if_neg k]

/-- LtypeTurned -/
theorem c4 (Γ : Nat → PV) (hΓ : Tab Γ) (l l' : List Int) (h8 : ∀ x ∈ l, 0 ≤ x ∧ x < 256) (h8' : ∀ x ∈ l', 0 ≤ x ∧ x < 256) : Gives Tryd.prog Γ 4 [.vec (l.map fun n => [.int .u8 n]) false, .vec (l'.map fun n => [.int .u8 n]) false] (.bool true) := by
  have h10 := c10 Γ l h8
  have h10' := c10 Γ l' h8'
  have hm := made_fun (madeF_ok l) (madeF_ok l')
  have hk3 : (funS (madeF l) (madeF l')).kind = 3 := rfl
  have h13 := c13 Γ (madeF l) (madeF l')
  generalize funS (madeF l) (madeF l') = S at hm hk3 h13
  generalize madeF l = s1 at h10 h13
  generalize madeF l' = s2 at h10' h13
  have hcn := hm.cnt
  have hwS := w_le_cnt S
  have f0 := c11 Γ S (by omega) 0
  have f1 := c11 Γ S (by omega) S.cnt
  rw [fresh_of hm.right (by decide), (Ty.fresh_places S 0 hm.right (by decide) (by omega)).2, Int.zero_add] at f0
  rw [fresh_of hm.right (by omega)] at f1
  have rX := Ty.fresh_right S 0 hm.right
  have rY := Ty.fresh_right S S.cnt hm.right
  have sX := Ty.fresh_shape S 0 hm.solid
  have sY := Ty.fresh_shape S S.cnt hm.solid
  generalize (Ty.fresh S 0).1 = X at f0 rX sX
  generalize Ty.fresh S S.cnt = YY at f1 rY sY
  obtain ⟨Y, nY⟩ := YY
  dsimp only at f1 rY sY
  have hwX : X.w ≤ 127 := by rw [← w_shape, sX]; omega
  have hs : X.shape = Y.shape := sX.trans sY.symm
  have kX : X.kind = 3 := by rw [← hk3, ← sX, Ty.shape_eq]; rfl
  have kY : Y.kind = 3 := by rw [← kind_shape hs]; exact kX
  have lX := kids_two rX kX
  have lY := kids_two rY kY
  have wX := Ty.w_two lX
  have p0 := Ty.w_pos (kid X 0)
  have p1 := Ty.w_pos (kid X 1)
  have s0 := kid_shape hs 0
  have s1' := kid_shape hs 1
  have e0 := w_same s0
  have rX0 := rX.kids _ (kid_mem (t := X) (i := 0) (by omega))
  have rX1 := rX.kids _ (kid_mem (t := X) (i := 1) (by omega))
  have rY0 := rY.kids _ (kid_mem (t := Y) (i := 0) (by omega))
  have rY1 := rY.kids _ (kid_mem (t := Y) (i := 1) (by omega))
  obtain ⟨n, hn⟩ : ∃ n, X.w = n + 1 + 1 := ⟨X.w - 2, by omega⟩
  have h12 := c12 Γ X Y (by omega)
  rw [sub_of rX rY hs, hn] at h12
  have h12b := c12 Γ (kid X 1) (kid Y 1) (by omega)
  rw [sub_of rX1 rY1 s1', subN_deep _ (n + 1) _ _ rX1 rY1 s1' (Nat.le_refl _) (by omega)] at h12b
  have h12r := c12r Γ n (kid Y 0) (kid X 0) (by omega) (by omega) rY0 rX0 s0.symm
  have hso := subN_eq (n + 1) X Y
  have ho1 : own1 X Y = [⟨X.l, Y.l⟩] := by unfold own1; rw [if_neg (by omega)]
  rw [ho1, if_pos kX] at hso
  have l0 := subN_len (n + 1) (kid Y 0) (kid X 0) rY0 rX0 s0.symm
  have l1 := subN_len (n + 1) (kid X 1) (kid Y 1) rX1 rY1 s1'
  have gX0 : (X.kids.map Ty.enc)[Int.toNat 0]? = some (kid X 0).enc := by rw [List.getElem?_map]; show (X.kids[0]?).map _ = _; rw [kid_get (by omega)]; rfl
  have gX1 : (X.kids.map Ty.enc)[Int.toNat 1]? = some (kid X 1).enc := by rw [List.getElem?_map]; show (X.kids[1]?).map _ = _; rw [kid_get (by omega)]; rfl
  have gY0 : (Y.kids.map Ty.enc)[Int.toNat 0]? = some (kid Y 0).enc := by rw [List.getElem?_map]; show (Y.kids[0]?).map _ = _; rw [kid_get (by omega)]; rfl
  have gY1 : (Y.kids.map Ty.enc)[Int.toNat 1]? = some (kid Y 1).enc := by rw [List.getElem?_map]; show (Y.kids[1]?).map _ = _; rw [kid_get (by omega)]; rfl
  generalize subN (n + 1) (kid Y 0) (kid X 0) = u0 at h12r hso l0
  generalize subN (n + 1) (kid X 1) (kid Y 1) = u1 at h12b hso l1
  dsimp only at h12 h12b
  have hso2 : [Pr.enc ⟨X.l, Y.l⟩, Pr.enc ⟨Y.pc, X.pc⟩, Pr.enc ⟨X.x, Y.x⟩] ++ (u0 ++ u1).map Pr.enc = (subN (n + 1 + 1) X Y).map Pr.enc := by rw [hso]; simp
  have hzl : (subN (n + 1 + 1) X Y).length ≤ 1000 := by rw [hso]; simp; omega
  generalize subN (n + 1 + 1) X Y = zs at h12 hso2 hzl
  clear hso
  generalize hA0 : kid X 0 = X0 at *
  generalize hA1 : kid X 1 = X1 at *
  generalize hB0 : kid Y 0 = Y0 at *
  generalize hB1 : kid Y 1 = Y1 at *
  refine fn_of_awp Tryd.func4 rfl (by simp [Tryd.f4]) rfl fun H => ?_
  refine awp_seq ?_
  refine awp_run rfl (by simp only [fwA, ↓reduceIte, Nat.reduceAdd, Nat.reduceMul, Nat.reduceEqDiff, Nat.reduceLT, Nat.reduceLeDiff, reduceCtorEq] <;> rfl) ?_
  refine awp_seq ?_
  -- region 1
  refine awp_region rfl ?_
  refine aops_fn rfl rfl rfl en9 (c9 Γ hΓ) ?_
  refine aops_run 1 (by simp only [fwA, ↓reduceIte, Nat.reduceAdd, Nat.reduceMul, Nat.reduceEqDiff, Nat.reduceLT, Nat.reduceLeDiff, reduceCtorEq] <;> rfl) ?_
  refine awp_seq ?_
  refine awp_seq ?_
  -- region 2
  refine awp_run rfl (by simp only [fwA, ↓reduceIte, Nat.reduceAdd, Nat.reduceMul, Nat.reduceEqDiff, Nat.reduceLT, Nat.reduceLeDiff, reduceCtorEq] <;> rfl) ?_
  refine awp_cond (by simp only [fwA, ↓reduceIte, Nat.reduceAdd, Nat.reduceMul, Nat.reduceEqDiff, Nat.reduceLT, Nat.reduceLeDiff, reduceCtorEq] <;> rfl) ?_
  refine awp_skip ?_
  refine awp_seq ?_
  -- region 4
  refine awp_region rfl ?_
  refine aops_run 1 (by simp only [fwA, ↓reduceIte, Nat.reduceAdd, Nat.reduceMul, Nat.reduceEqDiff, Nat.reduceLT, Nat.reduceLeDiff, reduceCtorEq] <;> rfl) ?_
  refine aops_fn rfl rfl rfl en10 h10 ?_
  refine aops_run 1 (by simp only [fwA, ↓reduceIte, Nat.reduceAdd, Nat.reduceMul, Nat.reduceEqDiff, Nat.reduceLT, Nat.reduceLeDiff, reduceCtorEq] <;> rfl) ?_
  refine aops_fn rfl rfl rfl en10 h10' ?_
  refine aops_fn rfl rfl rfl en13 h13 ?_
  refine aops_fn rfl rfl rfl en11 f0 ?_
  refine aops_run 6 (by simp only [fwA, ↓reduceIte, Nat.reduceAdd, Nat.reduceMul, Nat.reduceEqDiff, Nat.reduceLT, Nat.reduceLeDiff, reduceCtorEq, ti31, ti26, ti3, ti28, un3, un34, el34, ti29, un29, el29, fl31_1, fl31_3, fl31_4, fl31_5, ti38, pl38, Sh.fw, Ty.fw, Pr.fw] <;> rfl) ?_
  refine awp_seq ?_
  -- region 5
  refine awp_region rfl ?_
  refine aops_run 1 (by simp only [fwA, ↓reduceIte, Nat.reduceAdd, Nat.reduceMul, Nat.reduceEqDiff, Nat.reduceLT, Nat.reduceLeDiff, reduceCtorEq] <;> rfl) ?_
  refine aops_fn rfl rfl rfl en10 h10 ?_
  refine aops_run 1 (by simp only [fwA, ↓reduceIte, Nat.reduceAdd, Nat.reduceMul, Nat.reduceEqDiff, Nat.reduceLT, Nat.reduceLeDiff, reduceCtorEq] <;> rfl) ?_
  refine aops_fn rfl rfl rfl en10 h10' ?_
  refine aops_fn rfl rfl rfl en13 h13 ?_
  refine aops_run 1 (by simp only [fwA, ↓reduceIte, Nat.reduceAdd, Nat.reduceMul, Nat.reduceEqDiff, Nat.reduceLT, Nat.reduceLeDiff, reduceCtorEq] <;> rfl) ?_
  refine aops_fn rfl rfl rfl en11 f1 ?_
  refine aops_run 6 (by simp only [fwA, ↓reduceIte, Nat.reduceAdd, Nat.reduceMul, Nat.reduceEqDiff, Nat.reduceLT, Nat.reduceLeDiff, reduceCtorEq, ti31, ti26, ti3, ti28, un3, un34, el34, ti29, un29, el29, fl31_1, fl31_3, fl31_4, fl31_5, ti38, pl38, Sh.fw, Ty.fw, Pr.fw] <;> rfl) ?_
  refine awp_keep (A' := [(5, .bool true), (6, .ptr H.length 0), (8, .ptr (H.length + 1) 0)]) [5, 6, 8] (by simp [akeep, alook, aput, ev]) ?_
  refine awp_heap (H' := H ++ [.box X.enc, .box Y.enc]) (by simp) ?_
  refine awp_seq ?_
  refine awp_seq ?_
  -- region 6
  refine awp_run rfl (by simp only [fwA, ↓reduceIte, Nat.reduceAdd, Nat.reduceMul, Nat.reduceEqDiff, Nat.reduceLT, Nat.reduceLeDiff, reduceCtorEq, ti31, ti26, ti3, ti28, un3, un34, el34, ti29, un29, el29, fl31_1, fl31_3, fl31_4, fl31_5, ti38, pl38, Sh.fw, Ty.fw, Pr.fw, List.length_map, lX, lY] <;> rfl) ?_
  refine awp_cond (b := false) (by simp [alook, aput, ev]) ?_
  refine awp_skip ?_
  refine awp_seq ?_
  -- region 8
  refine awp_region rfl ?_
  refine aops_run 2 (by simp only [fwA, ↓reduceIte, Nat.reduceAdd, Nat.reduceMul, Nat.reduceEqDiff, Nat.reduceLT, Nat.reduceLeDiff, reduceCtorEq, ti31, ti26, ti3, ti28, un3, un34, el34, ti29, un29, el29, fl31_1, fl31_3, fl31_4, fl31_5, ti38, pl38, Sh.fw, Ty.fw, Pr.fw] <;> rfl) ?_
  refine aops_fn rfl rfl rfl en12 h12 ?_
  refine aops_run 5 (by simp only [fwA, ↓reduceIte, Nat.reduceAdd, Nat.reduceMul, Nat.reduceEqDiff, Nat.reduceLT, Nat.reduceLeDiff, reduceCtorEq] <;> rfl) ?_
  refine awp_keep (A' := [(5, .bool true), (6, .ptr H.length 0), (8, .ptr (H.length + 1) 0), (10, .vec (zs.map Pr.enc) false), (11, .bool true)]) [5, 6, 8, 10, 11] (by simp [akeep, alook, aput, ev]) ?_
  refine awp_seq ?_
  -- region 9 drawn
  refine awp_drawn [0, 1, 0, 1, 0, 1, 0, 1, 2, 0, 0, 0, 0, 0] [0, 1, 3, 7, 0, 16, 48, 112, 255, 511, 1023, 1023, 2047, 8191] mixed rfl (by kernel_rfl) ?_
  refine dops_run 8 (by simp only [fwA, ↓reduceIte, Nat.reduceAdd, Nat.reduceMul, Nat.reduceEqDiff, Nat.reduceLT, Nat.reduceLeDiff, reduceCtorEq, ti31, ti26, ti3, ti28, un3, un34, el34, ti29, un29, el29, fl31_1, fl31_3, fl31_4, fl31_5, ti38, pl38, Sh.fw, Ty.fw, Pr.fw, gX0, gY0, Int.reduceLE, Int.le_refl, true_and] <;> rfl) ?_
  refine dops_tcall rfl rfl rfl rfl en12 (h12r _) ?_
  refine dops_run 5 (by simp only [fwA, ↓reduceIte, Nat.reduceAdd, Nat.reduceMul, Nat.reduceEqDiff, Nat.reduceLT, Nat.reduceLeDiff, reduceCtorEq] <;> rfl) ?_
  refine dops_end ?_
  refine awp_keep (A' := [(5, .bool true), (6, .ptr H.length 0), (8, .ptr (H.length + 1) 0), (10, .vec (zs.map Pr.enc) false), (11, .bool true), (12, .row (H.length + 6) 0 u0.length 2), (13, .bool true)]) [5, 6, 8, 10, 11, 12, 13] (by simp [akeep, alook, aput, ev]) ?_
  refine awp_heap (H' := H ++ [.box X.enc, .box Y.enc, .box Y0.enc, .box X0.enc, .box Y0.enc, .box X0.enc, .row 2 ((u0.map Pr.enc).flatten)]) (by simp) ?_
  refine awp_seq ?_
  -- region 10 drawn
  refine awp_drawn [0, 1, 0, 1, 0, 1, 0, 1, 0, 0, 0, 0, 0, 0] [0, 1, 3, 7, 0, 16, 48, 112, 255, 511, 1023, 1023, 2047, 8191] mixed rfl (by kernel_rfl) ?_
  refine dops_run 8 (by simp only [fwA, ↓reduceIte, Nat.reduceAdd, Nat.reduceMul, Nat.reduceEqDiff, Nat.reduceLT, Nat.reduceLeDiff, reduceCtorEq, ti31, ti26, ti3, ti28, un3, un34, el34, ti29, un29, el29, fl31_1, fl31_3, fl31_4, fl31_5, ti38, pl38, Sh.fw, Ty.fw, Pr.fw, gX1, gY1, Int.reduceLE, Int.le_refl, true_and] <;> rfl) ?_
  refine dops_fn rfl rfl rfl rfl en12 h12b ?_
  refine dops_run 5 (by simp only [fwA, ↓reduceIte, Nat.reduceAdd, Nat.reduceMul, Nat.reduceEqDiff, Nat.reduceLT, Nat.reduceLeDiff, reduceCtorEq] <;> rfl) ?_
  refine dops_end ?_
  refine awp_keep (A' := [(5, .bool true), (6, .ptr H.length 0), (8, .ptr (H.length + 1) 0), (10, .vec (zs.map Pr.enc) false), (11, .bool true), (12, .row (H.length + 6) 0 u0.length 2), (13, .bool true), (14, .vec (u1.map Pr.enc) false), (15, .bool true)]) [5, 6, 8, 10, 11, 12, 13, 14, 15] (by simp [akeep, alook, aput, ev]) ?_
  refine awp_seq ?_
  -- region 11 drawn
  refine awp_drawnX (some (H.length + 6)) [0, 4, 0, 4, 0, 0, 4, 0, 4, 0, 0, 4, 0, 4, 0, 0, 0, 0, 5, 1, 0] [0, 1, 0, 4, 15, 0, 32, 0, 128, 480, 0, 1024, 0, 4096, 15360, 32767, 0, 0, 196608, 524287, 1048575] mixed rfl (by kernel_rfl) ?_
  refine dops_run 9 (by simp only [fwA, ↓reduceIte, Nat.reduceAdd, Nat.reduceMul, Nat.reduceEqDiff, Nat.reduceLT, Nat.reduceLeDiff, reduceCtorEq, ti31, ti26, ti3, ti28, un3, un34, el34, ti29, un29, el29, fl31_1, fl31_3, fl31_4, fl31_5, ti38, pl38, Sh.fw, Ty.fw, Pr.fw, View.vw, List.take_length] <;> rfl) ?_
  refine dops_run 9 (by simp only [fwA, ↓reduceIte, Nat.reduceAdd, Nat.reduceMul, Nat.reduceEqDiff, Nat.reduceLT, Nat.reduceLeDiff, reduceCtorEq, ti31, ti26, ti3, ti28, un3, un34, el34, ti29, un29, el29, fl31_1, fl31_3, fl31_4, fl31_5, ti38, pl38, Sh.fw, Ty.fw, Pr.fw, View.vw, List.take_length] <;> rfl) ?_
  refine dops_appendX (q := 0) (k := u0.length) (cs := (u0.map Pr.enc).flatten) rfl rfl rfl un34 ti38 un34 rfl (by simp only [fwA, ↓reduceIte, Nat.reduceAdd, Nat.reduceMul, Nat.reduceEqDiff, Nat.reduceLT, Nat.reduceLeDiff, reduceCtorEq] <;> rfl) (flatP_len _) rfl (fun e he => by
    obtain ⟨x, _, rfl⟩ := List.mem_map.1 he
    rfl) (by rw [List.length_map]; show (u0.length + u1.length) * 16 ≤ _; omega) (by rw [List.length_map]; omega) rfl (by simp) ?_
  have hjoin : (u0.map Pr.enc).flatten ++ (u1.map Pr.enc).flatten = ((u0 ++ u1).map Pr.enc).flatten := by simp
  have hjl : u0.length + (u1.map Pr.enc).length = (u0 ++ u1).length := by simp
  rw [hjoin, hjl]
  refine dops_appendVR (q := 0) (k := (u0 ++ u1).length) (cs := ((u0 ++ u1).map Pr.enc).flatten) rfl rfl rfl un34 ti38 un34 rfl (fun e he => by
    simp only [List.mem_cons, List.not_mem_nil, or_false] at he
    rcases he with rfl | rfl | rfl <;> rfl) rfl (by simp only [fwA, ↓reduceIte, Nat.reduceAdd, Nat.reduceMul, Nat.reduceEqDiff, Nat.reduceLT, Nat.reduceLeDiff, reduceCtorEq] <;> rfl) (flatP_len _) (flatP_bd _ _) (by show (3 + (u0 ++ u1).length) * 16 ≤ _; rw [List.length_append]; omega) (by show 3 + (u0 ++ u1).length ≤ _; rw [List.length_append]; omega) ?_
  have hres : [[PV.int .i64 X.l, PV.int .i64 Y.l], [PV.int .i64 Y.pc, PV.int .i64 X.pc], [PV.int .i64 X.x, PV.int .i64 Y.x]] ++ chunk 2 (u0 ++ u1).length ((((u0 ++ u1).map Pr.enc).flatten).drop 0) = zs.map Pr.enc := by
    rw [List.drop_zero, flatP_chunk]; exact hso2
  refine dops_run 1 (by simp only [fwA, ↓reduceIte, Nat.reduceAdd, Nat.reduceMul, Nat.reduceEqDiff, Nat.reduceLT, Nat.reduceLeDiff, reduceCtorEq] <;> rfl) ?_
  refine dops_end ?_
  refine awp_keep (A' := [(5, .bool true), (10, .vec (zs.map Pr.enc) false), (11, .bool true), (13, .bool true), (15, .bool true), (16, .vec (zs.map Pr.enc) false)]) [5, 10, 11, 13, 15, 16] (by rw [← hres]; simp [akeep, alook, aput, ev]) ?_
  refine awp_heap (H' := H ++ [.box X.enc, .box Y.enc, .box Y0.enc, .box X0.enc, .box Y0.enc, .box X0.enc, .row 2 (((u0 ++ u1).map Pr.enc).flatten)]) (by simp) ?_
  generalize [Blk.box X.enc, Blk.box Y.enc, Blk.box Y0.enc, Blk.box X0.enc, Blk.box Y0.enc, Blk.box X0.enc, Blk.row 2 (((u0 ++ u1).map Pr.enc).flatten)] = L
  refine awp_seq ?_
  refine awp_seq ?_
  -- region 12
  refine awp_run rfl (by simp only [fwA, ↓reduceIte, Nat.reduceAdd, Nat.reduceMul, Nat.reduceEqDiff, Nat.reduceLT, Nat.reduceLeDiff, reduceCtorEq, ti31, ti26, ti3, ti28, un3, un34, el34, ti29, un29, el29, fl31_1, fl31_3, fl31_4, fl31_5, ti38, pl38, Sh.fw, Ty.fw, Pr.fw, List.length_map] <;> rfl) ?_
  refine awp_cond (b := false) (by simp [alook, aput, ev]) ?_
  refine awp_skip ?_
  refine awp_seq ?_
  refine awp_seq ?_
  -- region 14
  refine awp_run rfl (by simp only [fwA, ↓reduceIte, Nat.reduceAdd, Nat.reduceMul, Nat.reduceEqDiff, Nat.reduceLT, Nat.reduceLeDiff, reduceCtorEq] <;> rfl) ?_
  refine awp_block ?_
  refine awp_for [5, 10, 11, 13, 15, 16, 17] (fun i : Nat => [.bool true, .vec (zs.map Pr.enc) false, .bool true, .bool true, .bool true, .vec (zs.map Pr.enc) false, .int .i64 (i : Int)]) (fun _ => H ++ L) (fun i => zs.length - i) (fun i => i ≤ zs.length) 0 (by simp [alook, aput, ev]) rfl (Nat.zero_le _) fun i hi => ?_
  refine awp_seq ?_
  refine awp_seq ?_
  -- region 15
  refine awp_run rfl (by simp only [fwA, ↓reduceIte, Nat.reduceAdd, Nat.reduceMul, Nat.reduceEqDiff, Nat.reduceLT, Nat.reduceLeDiff, reduceCtorEq, ti31, ti26, ti3, ti28, un3, un34, el34, ti29, un29, el29, fl31_1, fl31_3, fl31_4, fl31_5, ti38, pl38, Sh.fw, Ty.fw, Pr.fw, List.length_map] <;> rfl) ?_
  refine awp_cond (by simp only [fwA, ↓reduceIte, Nat.reduceAdd, Nat.reduceMul, Nat.reduceEqDiff, Nat.reduceLT, Nat.reduceLeDiff, reduceCtorEq] <;> rfl) ?_
  by_cases hc : (i : Int) < zs.length
  rotate_left
  · simp only [hc, decide_false, Bool.false_eq_true, ↓reduceIte]
    refine awp_exit ?_
    refine awp_seq (awp_run rfl (by simp only [fwA, ↓reduceIte, Nat.reduceAdd, Nat.reduceMul, Nat.reduceEqDiff, Nat.reduceLT, Nat.reduceLeDiff, reduceCtorEq] <;> rfl) (awp_ret ?_))
    exact gives_end (.inl rfl) _ rfl
  simp only [hc, decide_true, ↓reduceIte]
  refine awp_skip ?_
  have gz : zs[i]? = some zs[i] := List.getElem?_eq_getElem (by omega)
  generalize zs[i] = z at gz
  refine awp_seq ?_
  refine awp_block ?_
  refine awp_seq ?_
  -- region 17 drawn
  refine awp_drun [0, 0, 0, 1, 0, 0, 0, 1, 0] [0, 0, 3, 7, 0, 0, 48, 112, 255] mixed rfl (by kernel_rfl) (by simp only [fwA, ↓reduceIte, Nat.reduceAdd, Nat.reduceMul, Nat.reduceEqDiff, Nat.reduceLT, Nat.reduceLeDiff, reduceCtorEq, ti31, ti26, ti3, ti28, un3, un34, el34, ti29, un29, el29, fl31_1, fl31_3, fl31_4, fl31_5, ti38, pl38, Sh.fw, Ty.fw, Pr.fw, eq38, List.getElem?_map, gz, Option.map_some, Int.natCast_nonneg] <;> rfl) ?_
  refine awp_cond (b := false) (by simp [alook, aput, ev]) ?_
  refine awp_skip ?_
  -- region 16
  refine awp_run rfl (by simp only [fwA, ↓reduceIte, Nat.reduceAdd, Nat.reduceMul, Nat.reduceEqDiff, Nat.reduceLT, Nat.reduceLeDiff, reduceCtorEq] <;> rfl) ?_
  exact ⟨i + 1, by omega, by omega, by rw [wrapS i (by omega)]; rfl, rfl, rfl⟩

end Go.Proofs.YtlnffadolfkggaaDoor
