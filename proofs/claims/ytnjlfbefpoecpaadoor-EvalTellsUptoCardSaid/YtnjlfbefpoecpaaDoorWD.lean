/- The state of a run, in memory; what a contract of its functions says. -/
import Derived.Test.YtnjlfbefpoecpaaDoorWC
import Derived.Test.YtnjlfbefpoecpaaDoorWB
namespace Go.Proofs.YtnjlfbefpoecpaaDoor
set_option linter.unusedVariables false
set_option linter.unusedSimpArgs false
set_option maxRecDepth 100000
open Go.RowKit Fw

/-- The blocks, where block b is a run's state. -/
def Hp (H : List Blk) (b : Nat) (c : List Sl) (f : Int) : List Blk := H.set b (.box [.vec (c.map Sl.enc) false, .int .i64 f])

theorem Hp_len (H : List Blk) (b : Nat) (c : List Sl) (f : Int) : (Hp H b c f).length = H.length := by simp [Hp]
theorem Hp_app {H : List Blk} {b : Nat} (hb : b < H.length) (L : List Blk) (c : List Sl) (f : Int) : Hp (H ++ L) b c f = Hp H b c f ++ L := by
  unfold Hp
  rw [List.set_append_left _ _ hb]
theorem Hp_get0 {H : List Blk} {b : Nat} (hb : b < H.length) (c : List Sl) (f : Int) : (Hp H b c f)[b]? = some (.box [.vec (c.map Sl.enc) false, .int .i64 f]) := by
  unfold Hp
  rw [List.getElem?_set_self hb]
theorem Hp_get {H : List Blk} {b : Nat} (hb : b < H.length) (c : List Sl) (f : Int) (L : List Blk) : (Hp H b c f ++ L)[b]? = some (.box [.vec (c.map Sl.enc) false, .int .i64 f]) := by
  rw [List.getElem?_append_left (by rw [Hp_len]; exact hb), Hp_get0 hb]
theorem Hp_set {H : List Blk} {b : Nat} (hb : b < H.length) (c c' : List Sl) (f f' : Int) (L : List Blk) : (Hp H b c f ++ L).set b (.box [.vec (c'.map Sl.enc) false, .int .i64 f']) = Hp H b c' f' ++ L := by
  rw [List.set_append_left _ _ (by rw [Hp_len]; exact hb)]
  unfold Hp
  rw [List.set_set]
theorem Hp_at (H : List Blk) (b : Nat) (c : List Sl) (f : Int) (L : List Blk) (k : Nat) : (Hp H b c f ++ L)[H.length + k]? = L[k]? := by
  rw [← Hp_len H b c f]; exact Fw.get_at _ _ _
theorem Hp_at0 (H : List Blk) (b : Nat) (c : List Sl) (f : Int) (L : List Blk) : (Hp H b c f ++ L)[H.length]? = L[0]? := Hp_at H b c f L 0
theorem Hp_seta (H : List Blk) (b : Nat) (c : List Sl) (f : Int) (L : List Blk) (k : Nat) (B : Blk) : (Hp H b c f ++ L).set (H.length + k) B = Hp H b c f ++ L.set k B := by
  rw [← Hp_len H b c f]; exact Fw.set_at _ _ _ _
theorem Hp_seta0 (H : List Blk) (b : Nat) (c : List Sl) (f : Int) (L : List Blk) (B : Blk) : (Hp H b c f ++ L).set H.length B = Hp H b c f ++ L.set 0 B := Hp_seta H b c f L 0 B

theorem Hp_self {H : List Blk} {b : Nat} {c : List Sl} {f : Int} (h : H[b]? = some (.box [.vec (c.map Sl.enc) false, .int .i64 f])) : Hp H b c f = H := by
  unfold Hp
  apply List.ext_getElem? fun i => ?_
  by_cases e : i = b
  · subst e; rw [List.getElem?_set_self (List.getElem?_eq_some_iff.1 h).1, h]
  · rw [List.getElem?_set_ne (Ne.symm e)]

theorem Hp_bd {H : List Blk} {b : Nat} (hb : b < H.length) {c : List Sl} {f : Int} (h : ∀ B ∈ Hp H b c f, B.bd (Hp H b c f).length = true) (c' : List Sl) (f' : Int) : ∀ B ∈ Hp H b c' f', B.bd H.length = true := fun B hB => by
  obtain ⟨i, hi⟩ := List.mem_iff_getElem?.1 hB
  by_cases e : i = b
  · subst e
    rw [Hp_get0 hb] at hi
    cases hi
    rfl
  · have h2 : (Hp H b c f)[i]? = some B := by
      unfold Hp at hi ⊢
      rw [List.getElem?_set_ne (Ne.symm e)] at hi ⊢
      exact hi
    have := h B (List.mem_of_getElem? h2)
    rwa [Hp_len] at this

/-- The end of a function that leaves the run's state, and boxes of its own that nobody asks for. -/
theorem ret_Hp {Γ : Nat → PV} {fn : Func} {H : List Blk} {b : Nat} (hb : b < H.length) {c c' : List Sl} {f f' : Int} {p : PV} {R : PV → List Blk → Prop} {A' : List (Nat × PV)} {e : Exit} (he : e = .ret ∨ e = .normal) (hbd : ∀ B ∈ Hp H b c f, B.bd (Hp H b c f).length = true)
    (L : List Blk) (h : ares Tryd.prog Γ A' (Hp H b c' f' ++ L) fn.results.toList = some p) (hp : p.bd H.length = true) (hR : R p (Hp H b c' f')) : RetQ Tryd.prog Γ fn (Hp H b c f).length R e A' (Hp H b c' f' ++ L) [] := by
  have ht : (Hp H b c' f' ++ L).take H.length = Hp H b c' f' := List.take_left' (Hp_len _ _ _ _)
  exact ⟨he, List.nodup_nil, (fun b hb => by cases hb), p, H.length, h, by rw [Hp_len]; exact Nat.le_refl _, by rw [List.length_append, Hp_len]; omega, fun b hb => (by cases hb), hp, by rw [ht]; exact Hp_bd hb hbd _ _, by rw [ht]; exact hR⟩

/-- What a run's contract says of an end. -/
def Ends (H : List Blk) (b : Nat) (r : Res) (p : PV) (H' : List Blk) : Prop := p = .agg (endE r.st r.v) ∧ H' = Hp H b r.c r.f

/-- The contract of the function that runs a term. -/
def TermC (Γ : Nat → PV) (B n : Nat) (rn : Runner) : Prop := ∀ (H : List Blk) (b : Nat) (t : Tm) (env : List Bd) (c : List Sl) (f : Int), b < H.length → f ≤ n → -9223372036854775808 ≤ f → f.toNat ≤ B → EL (B - f.toNat) env → c.length * 24 ≤ reachBytes →
  ACalls Tryd.prog Γ 42 [.ptr b 0, .agg t.enc, .vec (env.map Bd.enc) false] (Hp H b c f) (Ends H b (rn t env c f))

theorem TermC.at {Γ : Nat → PV} {B n : Nat} {rn : Runner} (h : TermC Γ B n rn) {H : List Blk} {b : Nat} (hb : b < H.length) (L : List Blk) (t : Tm) {env : List Bd} {c : List Sl} {f : Int} (h1 : f ≤ n) (h2 : -9223372036854775808 ≤ f) (h3 : f.toNat ≤ B) (h4 : EL (B - f.toNat) env) (h5 : c.length * 24 ≤ reachBytes) :
    ACalls Tryd.prog Γ 42 [.ptr b 0, .agg t.enc, .vec (env.map Bd.enc) false] (Hp H b c f ++ L) (fun p H' => p = .agg (endE (rn t env c f).st (rn t env c f).v) ∧ H' = Hp H b (rn t env c f).c (rn t env c f).f ++ L) := by
  have := h (H ++ L) b t env c f (by rw [List.length_append]; omega) h1 h2 h3 h4 h5
  rw [Hp_app hb] at this
  exact this.mono fun p H' hq => ⟨hq.1, by rw [hq.2, Hp_app hb]⟩

/-- A call in a drawn region that turns blocks. -/
theorem dops_call {P : Program} {Γ : Nat → PV} {ops : Array Oper} {cls : List Nat} {n0 : View} {K : List (Nat × PV) → List Blk → Prop} {i : Nat} {o : Oper} {rest : List (Nat × Oper)} {A : List (Nat × PV)} {H H' : List Blk} {x : Operand} {args : Array Operand} {ts : Array TypeId} {f : FuncId} {fs cs : List PV} {p : PV}
    (ho : o.op = .call { callee := .value x, args := args, argTypes := ts }) (hw : wantA ops A o = some true) (hc : cls.getD i 0 = 2) (hx : ev Γ A x = .func (.func f) fs cs) (he : Enters P f)
    (h : ACalls P Γ f (fs ++ args.toList.map (ev Γ A) ++ cs) H (fun q H1 => q = p ∧ H1 = H')) (hk : DOps P Γ ops cls n0 K rest (aput A o.dst p) H') : DOps P Γ ops cls n0 K ((i, o) :: rest) A H :=
  dops_turns _ hw hc (fun A' hev => by
    have hops : ∀ y, y = x ∨ y ∈ args → ev Γ A' y = ev Γ A y := fun y hy => hev y (by
      rw [ho]
      simp only [Op.operands, Call.operands, Array.mem_append]
      rcases hy with rfl | hy
      · exact .inl (by simp)
      · exact .inr hy)
    refine os_call ho (by rw [hops x (.inl rfl)]; exact hx) he ?_
    rw [List.map_congr_left (l := args.toList) fun y hy => hops y (.inr (by simpa using hy))]
    exact h) hk

end Go.Proofs.YtnjlfbefpoecpaaDoor

/- The contract of what a run does behind both kids. -/
namespace Go.Proofs.YtnjlfbefpoecpaaDoor
set_option linter.unusedVariables false
set_option linter.unusedSimpArgs false
set_option maxRecDepth 100000
open Go.RowKit Fw

theorem ends_of {H : List Blk} {b : Nat} {r : Res} {p : PV} {c : List Sl} {f : Int} {st : Int} {v : Val} (hp : p = .agg (endE st v)) (hr : r = ⟨st, v, c, f⟩) : Ends H b r p (Hp H b c f) := by
  subst hr; exact ⟨hp, rfl⟩
theorem ends_run {H : List Blk} {b : Nat} {r s : Res} (hr : r = s) : Ends H b r (.agg (endE s.st s.v)) (Hp H b s.c s.f) := by
  subst hr; exact ⟨rfl, rfl⟩

/-- run.both -/
theorem c74 (Γ : Nat → PV) {B n : Nat} {rn : Runner} (hT : TermC Γ B n rn) (hB : B * 128 ≤ reachBytes) (H : List Blk) (b : Nat) (t : Tm) (a v : Val) (c : List Sl) (f : Int) (hb : b < H.length) (hf : f ≤ n) (hf0 : 0 ≤ f) (hfB : f.toNat + 1 ≤ B) (ha : Val.EB (B - (f.toNat + 1)) a) (hv : Val.EB (B - f.toNat) v) (hc : c.length * 24 ≤ reachBytes) :
    ACalls Tryd.prog Γ 74 [.ptr b 0, .agg t.enc, .agg a.enc, .agg v.enc] (Hp H b c f) (Ends H b (bothR rn t a v c f)) := by
  refine acalls_of_awp Tryd.func74 rfl (by simp [Tryd.f74]) fun hbd => ?_
  refine awp_seq ?_
  -- region 0
  refine awp_run rfl (by simp only [fw0, fw1, fw2, fw3, fw4, fw5, fw6, fw7, ↓reduceIte, Nat.reduceAdd, Nat.reduceMul, Nat.reduceEqDiff, Nat.reduceLT, Nat.reduceLeDiff, reduceCtorEq, Bool.false_eq_true, Bool.not_true, Bool.not_false, and_self, Nat.le_refl, ti108, Hp_len, Hp_at, Hp_at0, Hp_seta, Hp_seta0, Hp_get hb, Hp_set hb, Tm.fw, Val.fw, endE_fw] <;> rfl) ?_
  refine awp_seq ?_
  refine awp_seq ?_
  -- region 1
  refine awp_run rfl (by simp only [fw0, fw1, fw2, fw3, fw4, fw5, fw6, fw7, ↓reduceIte, Nat.reduceAdd, Nat.reduceMul, Nat.reduceEqDiff, Nat.reduceLT, Nat.reduceLeDiff, reduceCtorEq, Bool.false_eq_true, Bool.not_true, Bool.not_false, and_self, Nat.le_refl, fl29_0, ti3, Hp_len, Hp_at, Hp_at0, Hp_seta, Hp_seta0, Hp_get hb, Hp_set hb, Tm.fw, Val.fw, endE_fw] <;> rfl) ?_
  refine awp_block ?_
  refine awp_seq ?_
  -- region 2
  refine awp_run rfl (by simp only [fw0, fw1, fw2, fw3, fw4, fw5, fw6, fw7, ↓reduceIte, Nat.reduceAdd, Nat.reduceMul, Nat.reduceEqDiff, Nat.reduceLT, Nat.reduceLeDiff, reduceCtorEq, Bool.false_eq_true, Bool.not_true, Bool.not_false, and_self, Nat.le_refl] <;> rfl) ?_
  refine awp_cond (by simp only [fw0, fw1, fw2, fw3, fw4, fw5, fw6, fw7, ↓reduceIte, Nat.reduceAdd, Nat.reduceMul, Nat.reduceEqDiff, Nat.reduceLT, Nat.reduceLeDiff, reduceCtorEq, Bool.false_eq_true, Bool.not_true, Bool.not_false, and_self, Nat.le_refl] <;> rfl) ?_
  by_cases k4 : t.kind = 4
  · simp only [k4, decide_true, ↓reduceIte]
    refine awp_seq ?_
    refine awp_seq ?_
    -- region 3
    refine awp_run rfl (by simp only [fw0, fw1, fw2, fw3, fw4, fw5, fw6, fw7, ↓reduceIte, Nat.reduceAdd, Nat.reduceMul, Nat.reduceEqDiff, Nat.reduceLT, Nat.reduceLeDiff, reduceCtorEq, Bool.false_eq_true, Bool.not_true, Bool.not_false, and_self, Nat.le_refl, fl44_0, ti3, Hp_len, Hp_at, Hp_at0, Hp_seta, Hp_seta0, Hp_get hb, Hp_set hb, Tm.fw, Val.fw, endE_fw] <;> rfl) ?_
    refine awp_cond (by simp only [fw0, fw1, fw2, fw3, fw4, fw5, fw6, fw7, ↓reduceIte, Nat.reduceAdd, Nat.reduceMul, Nat.reduceEqDiff, Nat.reduceLT, Nat.reduceLeDiff, reduceCtorEq, Bool.false_eq_true, Bool.not_true, Bool.not_false, and_self, Nat.le_refl] <;> rfl) ?_
    by_cases h3 : a.kind = 3
    · simp only [h3, decide_true, Bool.not_true, Bool.false_eq_true, ↓reduceIte]
      refine awp_skip ?_
      refine awp_seq ?_
      -- region 5 drawn
      refine awp_drawn [0, 0, 1, 0, 1, 0, 1, 1, 0, 2, 2] [0, 0, 2, 0, 8, 0, 32, 0, 248, 511, 1023] mixed rfl (by kernel_rfl) ?_
      refine dops_run 8 (by simp only [fw0, fw1, fw2, fw3, fw4, fw5, fw6, fw7, ↓reduceIte, Nat.reduceAdd, Nat.reduceMul, Nat.reduceEqDiff, Nat.reduceLT, Nat.reduceLeDiff, reduceCtorEq, Bool.false_eq_true, Bool.not_true, Bool.not_false, and_self, Nat.le_refl, fl44_3, ti29, fl44_4, ti42, fl44_2, ti9, ti44, Hp_len, Hp_at, Hp_at0, Hp_seta, Hp_seta0, Hp_get hb, Hp_set hb, Tm.fw, Val.fw, endE_fw] <;> rfl) ?_
      refine dops_fn rfl rfl rfl rfl en36 (c36 Γ a.env a.name v (by have := (EB_env ha).1; omega)) ?_
      refine dops_call rfl rfl rfl rfl en42 (hT.at hb _ a.t hf (by omega) (by omega) (EL_bind (EB_env ha) (by omega) hv _) hc) ?_
      refine dops_run 1 (by simp only [fw0, fw1, fw2, fw3, fw4, fw5, fw6, fw7, ↓reduceIte, Nat.reduceAdd, Nat.reduceMul, Nat.reduceEqDiff, Nat.reduceLT, Nat.reduceLeDiff, reduceCtorEq, Bool.false_eq_true, Bool.not_true, Bool.not_false, and_self, Nat.le_refl, ti108, Hp_len, Hp_at, Hp_at0, Hp_seta, Hp_seta0, Hp_get hb, Hp_set hb, Tm.fw, Val.fw, endE_fw] <;> rfl) ?_
      refine dops_end ?_
      refine awp_ret ?_
      exact ret_Hp hb (.inl rfl) hbd _ (by simp [ares, aresL, ares1, rd, ev, alook, aput, Tryd.f74, ti108, endE_fw, Hp_at]) (by simp [PV.bd, endE_fw]) (ends_run (by simp only [bothR, if_pos k4, if_pos h3]))
    · simp only [h3, decide_false, Bool.not_false, ↓reduceIte]
      refine awp_seq ?_
      -- region 4
      refine awp_region rfl ?_
      refine aops_fn rfl rfl rfl en60 (c60 Γ) ?_
      refine aops_run 1 (by simp only [fw0, fw1, fw2, fw3, fw4, fw5, fw6, fw7, ↓reduceIte, Nat.reduceAdd, Nat.reduceMul, Nat.reduceEqDiff, Nat.reduceLT, Nat.reduceLeDiff, reduceCtorEq, Bool.false_eq_true, Bool.not_true, Bool.not_false, and_self, Nat.le_refl, ti108, Hp_len, Hp_at, Hp_at0, Hp_seta, Hp_seta0, Hp_get hb, Hp_set hb, Tm.fw, Val.fw, endE_fw] <;> rfl) ?_
      refine awp_ret ?_
      exact ret_Hp hb (p := .agg (endE 3 zeroV)) (.inl rfl) hbd _ (by simp [ares, aresL, ares1, rd, ev, alook, aput, Tryd.f74, ti108, endE_fw, Hp_at]) (by simp [PV.bd, endE_fw]) (ends_of rfl (by simp only [bothR, if_pos k4, if_neg h3]; rfl))
  simp only [k4, decide_false, Bool.false_eq_true, ↓reduceIte]
  refine awp_seq ?_
  -- region 6
  refine awp_run rfl (by simp only [fw0, fw1, fw2, fw3, fw4, fw5, fw6, fw7, ↓reduceIte, Nat.reduceAdd, Nat.reduceMul, Nat.reduceEqDiff, Nat.reduceLT, Nat.reduceLeDiff, reduceCtorEq, Bool.false_eq_true, Bool.not_true, Bool.not_false, and_self, Nat.le_refl] <;> rfl) ?_
  refine awp_cond (by simp only [fw0, fw1, fw2, fw3, fw4, fw5, fw6, fw7, ↓reduceIte, Nat.reduceAdd, Nat.reduceMul, Nat.reduceEqDiff, Nat.reduceLT, Nat.reduceLeDiff, reduceCtorEq, Bool.false_eq_true, Bool.not_true, Bool.not_false, and_self, Nat.le_refl] <;> rfl) ?_
  by_cases k11 : t.kind = 11
  · simp only [k11, decide_true, ↓reduceIte]
    refine awp_seq ?_
    -- region 7 drawn
    refine awp_drawn [0, 0, 0, 1, 0, 1, 0, 1, 0, 0, 0, 0, 0, 0] [0, 1, 3, 7, 0, 16, 0, 64, 255, 511, 1023, 1023, 2047, 8191] mixed rfl (by kernel_rfl) ?_
    refine dops_run 8 (by simp only [fw0, fw1, fw2, fw3, fw4, fw5, fw6, fw7, ↓reduceIte, Nat.reduceAdd, Nat.reduceMul, Nat.reduceEqDiff, Nat.reduceLT, Nat.reduceLeDiff, reduceCtorEq, Bool.false_eq_true, Bool.not_true, Bool.not_false, and_self, Nat.le_refl, fl106_0, ti45, fl44_2, ti9, fl44_1, ti2, Hp_len, Hp_at, Hp_at0, Hp_seta, Hp_seta0, Hp_get hb, Hp_set hb, Tm.fw, Val.fw, endE_fw] <;> rfl) ?_
    refine dops_fn rfl rfl rfl rfl en80 (c80 Γ c a.name v.n hc) ?_
    refine dops_run 5 (by simp only [fw0, fw1, fw2, fw3, fw4, fw5, fw6, fw7, ↓reduceIte, Nat.reduceAdd, Nat.reduceMul, Nat.reduceEqDiff, Nat.reduceLT, Nat.reduceLeDiff, reduceCtorEq, Bool.false_eq_true, Bool.not_true, Bool.not_false, and_self, Nat.le_refl, writeP] <;> rfl) ?_
    refine dops_end ?_
    have hl : ((writeV c a.name v.n).getD c).length = c.length := write_len
    generalize hok : (writeV c a.name v.n).isSome = ok
    generalize hcc : (writeV c a.name v.n).getD c = cc at hl
    have stk : ∀ (A' : List (Nat × PV)), (alook A' 8 = .ptr (H.length + 3) 0) → ¬ (ok = true ∧ a.kind = 2 ∧ v.kind = 1) → ∀ L : List Blk, L[3]? = some (.box (endE 3 zeroV)) → RetQ Tryd.prog Γ Tryd.f74 (Hp H b c f).length (Ends H b (bothR rn t a v c f)) .ret A' (Hp H b c f ++ L) [] := fun A' h8 hno L hL =>
      ret_Hp hb (p := .agg (endE 3 zeroV)) (.inl rfl) hbd _ (by simp [ares, aresL, ares1, rd, ev, h8, Tryd.f74, ti108, endE_fw, Hp_at, hL]) (by simp [PV.bd, endE_fw]) (ends_of rfl (by simp only [bothR, if_neg k4, if_pos k11, hok, if_neg hno]; rfl))
    refine awp_seq ?_
    refine awp_seq ?_
    -- region 8
    by_cases h1 : ok = true
    rotate_left
    · have h1' : ok = false := by simpa using h1
      subst h1'
      refine awp_run rfl (by simp only [fw0, fw1, fw2, fw3, fw4, fw5, fw6, fw7, ↓reduceIte, Nat.reduceAdd, Nat.reduceMul, Nat.reduceEqDiff, Nat.reduceLT, Nat.reduceLeDiff, reduceCtorEq, Bool.false_eq_true, Bool.not_true, Bool.not_false, and_self, Nat.le_refl, fl44_0, ti3, ti44, Hp_len, Hp_at, Hp_at0, Hp_seta, Hp_seta0, Hp_get hb, Hp_set hb, Tm.fw, Val.fw, endE_fw] <;> rfl) ?_
      refine awp_cond (b := true) rfl ?_
      refine awp_seq ?_
      -- region 9
      refine awp_region rfl ?_
      refine aops_fn rfl rfl rfl en60 (c60 Γ) ?_
      refine aops_run 1 (by simp only [fw0, fw1, fw2, fw3, fw4, fw5, fw6, fw7, ↓reduceIte, Nat.reduceAdd, Nat.reduceMul, Nat.reduceEqDiff, Nat.reduceLT, Nat.reduceLeDiff, reduceCtorEq, Bool.false_eq_true, Bool.not_true, Bool.not_false, and_self, Nat.le_refl, ti108, Hp_len, Hp_at, Hp_at0, Hp_seta, Hp_seta0, Hp_get hb, Hp_set hb, Tm.fw, Val.fw, endE_fw] <;> rfl) ?_
      exact awp_ret (stk _ rfl (by simp) _ rfl)
    subst h1
    by_cases h2 : a.kind = 2
    rotate_left
    · refine awp_run rfl (by simp only [fw0, fw1, fw2, fw3, fw4, fw5, fw6, fw7, ↓reduceIte, Nat.reduceAdd, Nat.reduceMul, Nat.reduceEqDiff, Nat.reduceLT, Nat.reduceLeDiff, reduceCtorEq, Bool.false_eq_true, Bool.not_true, Bool.not_false, and_self, Nat.le_refl, fl44_0, ti3, ti44, h2, decide_false, Hp_len, Hp_at, Hp_at0, Hp_seta, Hp_seta0, Hp_get hb, Hp_set hb, Tm.fw, Val.fw, endE_fw] <;> rfl) ?_
      refine awp_cond (b := true) rfl ?_
      refine awp_seq ?_
      -- region 9
      refine awp_region rfl ?_
      refine aops_fn rfl rfl rfl en60 (c60 Γ) ?_
      refine aops_run 1 (by simp only [fw0, fw1, fw2, fw3, fw4, fw5, fw6, fw7, ↓reduceIte, Nat.reduceAdd, Nat.reduceMul, Nat.reduceEqDiff, Nat.reduceLT, Nat.reduceLeDiff, reduceCtorEq, Bool.false_eq_true, Bool.not_true, Bool.not_false, and_self, Nat.le_refl, ti108, Hp_len, Hp_at, Hp_at0, Hp_seta, Hp_seta0, Hp_get hb, Hp_set hb, Tm.fw, Val.fw, endE_fw] <;> rfl) ?_
      exact awp_ret (stk _ rfl (by simp [h2]) _ rfl)
    refine awp_region rfl ?_
    refine aops_run 9 (by simp only [fw0, fw1, fw2, fw3, fw4, fw5, fw6, fw7, ↓reduceIte, Nat.reduceAdd, Nat.reduceMul, Nat.reduceEqDiff, Nat.reduceLT, Nat.reduceLeDiff, reduceCtorEq, Bool.false_eq_true, Bool.not_true, Bool.not_false, and_self, Nat.le_refl, fl44_0, ti3, ti44, h2, decide_true, Hp_len, Hp_at, Hp_at0, Hp_seta, Hp_seta0, Hp_get hb, Hp_set hb, Tm.fw, Val.fw, endE_fw] <;> rfl) ?_
    refine aops_fnIf rfl rfl rfl rfl rfl en71 (c71 Γ v) ?_
    refine aops_run 2 (by simp only [fw0, fw1, fw2, fw3, fw4, fw5, fw6, fw7, ↓reduceIte, Nat.reduceAdd, Nat.reduceMul, Nat.reduceEqDiff, Nat.reduceLT, Nat.reduceLeDiff, reduceCtorEq, Bool.false_eq_true, Bool.not_true, Bool.not_false, and_self, Nat.le_refl] <;> rfl) ?_
    by_cases h5 : v.kind = 1
    rotate_left
    · refine awp_cond (b := true) (by simp only [fw0, fw1, fw2, fw3, fw4, fw5, fw6, fw7, ↓reduceIte, Nat.reduceAdd, Nat.reduceMul, Nat.reduceEqDiff, Nat.reduceLT, Nat.reduceLeDiff, reduceCtorEq, Bool.false_eq_true, Bool.not_true, Bool.not_false, and_self, Nat.le_refl, h5, decide_false] <;> rfl) ?_
      refine awp_seq ?_
      -- region 9
      refine awp_region rfl ?_
      refine aops_fn rfl rfl rfl en60 (c60 Γ) ?_
      refine aops_run 1 (by simp only [fw0, fw1, fw2, fw3, fw4, fw5, fw6, fw7, ↓reduceIte, Nat.reduceAdd, Nat.reduceMul, Nat.reduceEqDiff, Nat.reduceLT, Nat.reduceLeDiff, reduceCtorEq, Bool.false_eq_true, Bool.not_true, Bool.not_false, and_self, Nat.le_refl, ti108, Hp_len, Hp_at, Hp_at0, Hp_seta, Hp_seta0, Hp_get hb, Hp_set hb, Tm.fw, Val.fw, endE_fw] <;> rfl) ?_
      exact awp_ret (stk _ rfl (by simp [h5]) _ rfl)
    refine awp_cond (b := false) (by simp only [fw0, fw1, fw2, fw3, fw4, fw5, fw6, fw7, ↓reduceIte, Nat.reduceAdd, Nat.reduceMul, Nat.reduceEqDiff, Nat.reduceLT, Nat.reduceLeDiff, reduceCtorEq, Bool.false_eq_true, Bool.not_true, Bool.not_false, and_self, Nat.le_refl, h5, decide_true] <;> rfl) ?_
    refine awp_skip ?_
    refine awp_seq ?_
    -- region 10
    refine awp_run rfl (by simp only [fw0, fw1, fw2, fw3, fw4, fw5, fw6, fw7, ↓reduceIte, Nat.reduceAdd, Nat.reduceMul, Nat.reduceEqDiff, Nat.reduceLT, Nat.reduceLeDiff, reduceCtorEq, Bool.false_eq_true, Bool.not_true, Bool.not_false, and_self, Nat.le_refl, fl106_0, ti45, Hp_len, Hp_at, Hp_at0, Hp_seta, Hp_seta0, Hp_get hb, Hp_set hb, Tm.fw, Val.fw, endE_fw] <;> rfl) ?_
    refine awp_seq ?_
    -- region 11
    refine awp_region rfl ?_
    refine aops_fn rfl rfl rfl en61 (c61 Γ 0) ?_
    refine aops_run 1 (by simp only [fw0, fw1, fw2, fw3, fw4, fw5, fw6, fw7, ↓reduceIte, Nat.reduceAdd, Nat.reduceMul, Nat.reduceEqDiff, Nat.reduceLT, Nat.reduceLeDiff, reduceCtorEq, Bool.false_eq_true, Bool.not_true, Bool.not_false, and_self, Nat.le_refl, ti108, Hp_len, Hp_at, Hp_at0, Hp_seta, Hp_seta0, Hp_get hb, Hp_set hb, Tm.fw, Val.fw, endE_fw] <;> rfl) ?_
    refine awp_ret ?_
    refine ret_Hp hb (c' := cc) (f' := f) (p := .agg (endE 1 (wholeV 0))) (.inl rfl) hbd _ (by simp [ares, aresL, ares1, rd, ev, alook, aput, Tryd.f74, ti108, endE_fw, Hp_at]) (by simp [PV.bd, endE_fw]) (ends_of rfl ?_)
    simp only [bothR, if_neg k4, if_pos k11, hok, hcc, h2, h5, and_self, ↓reduceIte]
  simp only [k11, decide_false, Bool.false_eq_true, ↓reduceIte]
  refine awp_skip ?_
  simp only [Post.block, Post.then]
  refine awp_seq ?_
  -- region 12
  refine awp_region rfl ?_
  refine aops_run 6 (by simp only [fw0, fw1, fw2, fw3, fw4, fw5, fw6, fw7, ↓reduceIte, Nat.reduceAdd, Nat.reduceMul, Nat.reduceEqDiff, Nat.reduceLT, Nat.reduceLeDiff, reduceCtorEq, Bool.false_eq_true, Bool.not_true, Bool.not_false, and_self, Nat.le_refl, fl29_1, ti9, fl44_1, ti2, Hp_len, Hp_at, Hp_at0, Hp_seta, Hp_seta0, Hp_get hb, Hp_set hb, Tm.fw, Val.fw, endE_fw] <;> rfl) ?_
  refine aops_fn rfl rfl rfl en81 (c81 Γ t.name a.n v.n) ?_
  refine aops_run 5 (by simp only [fw0, fw1, fw2, fw3, fw4, fw5, fw6, fw7, ↓reduceIte, Nat.reduceAdd, Nat.reduceMul, Nat.reduceEqDiff, Nat.reduceLT, Nat.reduceLeDiff, reduceCtorEq, Bool.false_eq_true, Bool.not_true, Bool.not_false, and_self, Nat.le_refl, doP] <;> rfl) ?_
  generalize hok : (doV t.name a.n v.n).isSome = ok
  generalize hnn : (doV t.name a.n v.n).getD 0 = nn
  have fin : ∀ (A' : List (Nat × PV)) (q : Bool), (q = true ↔ (ok = true ∧ a.kind = 1 ∧ v.kind = 1)) → (alook A' 8 = .ptr (H.length + 3) 0) → ∀ L : List Blk, L[3]? = some (.box (if q = true then endE 1 (wholeV nn) else endE 3 zeroV)) → RetQ Tryd.prog Γ Tryd.f74 (Hp H b c f).length (Ends H b (bothR rn t a v c f)) .ret A' (Hp H b c f ++ L) [] := fun A' q hq h8 L hL => by
    cases q with
    | true => exact ret_Hp hb (p := .agg (endE 1 (wholeV nn))) (.inl rfl) hbd _ (by simp [ares, aresL, ares1, rd, ev, h8, Tryd.f74, ti108, endE_fw, Hp_at, hL]) (by simp [PV.bd, endE_fw]) (ends_of rfl (by simp only [bothR, if_neg k4, if_neg k11, hok, hnn, if_pos (hq.1 rfl)]))
    | false => exact ret_Hp hb (p := .agg (endE 3 zeroV)) (.inl rfl) hbd _ (by simp [ares, aresL, ares1, rd, ev, h8, Tryd.f74, ti108, endE_fw, Hp_at, hL]) (by simp [PV.bd, endE_fw]) (ends_of rfl (by simp only [bothR, if_neg k4, if_neg k11, hok, hnn, if_neg (fun h => by cases hq.2 h)]; rfl))
  have enc73 : ∀ q : Bool, (if q = true then endE 1 (wholeV nn) else endE 3 zeroV).length = 9 := fun q => by cases q <;> simp [endE_fw]
  refine awp_seq ?_
  -- region 13
  refine awp_region rfl ?_
  by_cases h1 : ok = true
  rotate_left
  · have h1' : ok = false := by simpa using h1
    subst h1'
    refine aops_run 10 (by simp only [fw0, fw1, fw2, fw3, fw4, fw5, fw6, fw7, ↓reduceIte, Nat.reduceAdd, Nat.reduceMul, Nat.reduceEqDiff, Nat.reduceLT, Nat.reduceLeDiff, reduceCtorEq, Bool.false_eq_true, Bool.not_true, Bool.not_false, and_self, Nat.le_refl, ti44, Hp_len, Hp_at, Hp_at0, Hp_seta, Hp_seta0, Hp_get hb, Hp_set hb, Tm.fw, Val.fw, endE_fw] <;> rfl) ?_
    refine aops_fn rfl rfl rfl en73 (c73 Γ nn false) ?_
    refine aops_run 1 (by simp only [fw0, fw1, fw2, fw3, fw4, fw5, fw6, fw7, ↓reduceIte, Nat.reduceAdd, Nat.reduceMul, Nat.reduceEqDiff, Nat.reduceLT, Nat.reduceLeDiff, reduceCtorEq, Bool.false_eq_true, Bool.not_true, Bool.not_false, and_self, Nat.le_refl, ti108, Hp_len, Hp_at, Hp_at0, Hp_seta, Hp_seta0, Hp_get hb, Hp_set hb, Tm.fw, Val.fw, endE_fw, enc73] <;> rfl) ?_
    exact awp_ret (fin _ false (by simp) rfl _ rfl)
  subst h1
  refine aops_run 4 (by simp only [fw0, fw1, fw2, fw3, fw4, fw5, fw6, fw7, ↓reduceIte, Nat.reduceAdd, Nat.reduceMul, Nat.reduceEqDiff, Nat.reduceLT, Nat.reduceLeDiff, reduceCtorEq, Bool.false_eq_true, Bool.not_true, Bool.not_false, and_self, Nat.le_refl, ti44, Hp_len, Hp_at, Hp_at0, Hp_seta, Hp_seta0, Hp_get hb, Hp_set hb, Tm.fw, Val.fw, endE_fw] <;> rfl) ?_
  refine aops_fnIf rfl rfl rfl rfl rfl en71 (c71 Γ a) ?_
  by_cases h2 : a.kind = 1
  rotate_left
  · simp only [h2, decide_false]
    refine aops_run 5 (by simp only [fw0, fw1, fw2, fw3, fw4, fw5, fw6, fw7, ↓reduceIte, Nat.reduceAdd, Nat.reduceMul, Nat.reduceEqDiff, Nat.reduceLT, Nat.reduceLeDiff, reduceCtorEq, Bool.false_eq_true, Bool.not_true, Bool.not_false, and_self, Nat.le_refl, ti44, Hp_len, Hp_at, Hp_at0, Hp_seta, Hp_seta0, Hp_get hb, Hp_set hb, Tm.fw, Val.fw, endE_fw] <;> rfl) ?_
    refine aops_fn rfl rfl rfl en73 (c73 Γ nn false) ?_
    refine aops_run 1 (by simp only [fw0, fw1, fw2, fw3, fw4, fw5, fw6, fw7, ↓reduceIte, Nat.reduceAdd, Nat.reduceMul, Nat.reduceEqDiff, Nat.reduceLT, Nat.reduceLeDiff, reduceCtorEq, Bool.false_eq_true, Bool.not_true, Bool.not_false, and_self, Nat.le_refl, ti108, Hp_len, Hp_at, Hp_at0, Hp_seta, Hp_seta0, Hp_get hb, Hp_set hb, Tm.fw, Val.fw, endE_fw, enc73] <;> rfl) ?_
    exact awp_ret (fin _ false (by simp [h2]) rfl _ rfl)
  simp only [h2, decide_true]
  refine aops_run 3 (by simp only [fw0, fw1, fw2, fw3, fw4, fw5, fw6, fw7, ↓reduceIte, Nat.reduceAdd, Nat.reduceMul, Nat.reduceEqDiff, Nat.reduceLT, Nat.reduceLeDiff, reduceCtorEq, Bool.false_eq_true, Bool.not_true, Bool.not_false, and_self, Nat.le_refl, ti44, Hp_len, Hp_at, Hp_at0, Hp_seta, Hp_seta0, Hp_get hb, Hp_set hb, Tm.fw, Val.fw, endE_fw] <;> rfl) ?_
  refine aops_fnIf rfl rfl rfl rfl rfl en71 (c71 Γ v) ?_
  refine aops_run 1 (by simp only [fw0, fw1, fw2, fw3, fw4, fw5, fw6, fw7, ↓reduceIte, Nat.reduceAdd, Nat.reduceMul, Nat.reduceEqDiff, Nat.reduceLT, Nat.reduceLeDiff, reduceCtorEq, Bool.false_eq_true, Bool.not_true, Bool.not_false, and_self, Nat.le_refl] <;> rfl) ?_
  refine aops_fn rfl rfl rfl en73 (c73 Γ nn (decide (v.kind = 1))) ?_
  refine aops_run 1 (by simp only [fw0, fw1, fw2, fw3, fw4, fw5, fw6, fw7, ↓reduceIte, Nat.reduceAdd, Nat.reduceMul, Nat.reduceEqDiff, Nat.reduceLT, Nat.reduceLeDiff, reduceCtorEq, Bool.false_eq_true, Bool.not_true, Bool.not_false, and_self, Nat.le_refl, ti108, Hp_len, Hp_at, Hp_at0, Hp_seta, Hp_seta0, Hp_get hb, Hp_set hb, Tm.fw, Val.fw, endE_fw, enc73] <;> rfl) ?_
  exact awp_ret (fin _ (decide (v.kind = 1)) (by simp [h2]) rfl _ rfl)

end Go.Proofs.YtnjlfbefpoecpaaDoor

/- The contract of what a run does behind a first kid. -/
namespace Go.Proofs.YtnjlfbefpoecpaaDoor
set_option linter.unusedVariables false
set_option linter.unusedSimpArgs false
set_option maxRecDepth 100000
open Go.RowKit Fw

theorem kid_get {t : Tm} {i : Nat} (h : i < t.kids.length) : t.kids[i]? = some (kid t i) := by
  unfold kid
  rw [List.getD_eq_getElem?_getD, List.getElem?_eq_getElem h]
  rfl

/-- run.behind -/
theorem c65 (Γ : Nat → PV) {B n : Nat} {rn : Runner} (hT : TermC Γ B n rn) (hI : RunInv B n rn) (hB : B * 128 ≤ reachBytes) (H : List Blk) (b : Nat) (t : Tm) (env : List Bd) (a : Val) (c : List Sl) (f : Int) (hb : b < H.length) (hf : f ≤ n) (hf0 : 0 ≤ f) (hfB : f.toNat + 1 ≤ B)
    (he : EL (B - (f.toNat + 1)) env) (ha : Val.EB (B - f.toNat) a) (hc : c.length * 24 ≤ reachBytes) (hk1' : t.kind ≠ 8 → t.kind ≠ 10 → 1 < t.kids.length) (hk2' : t.kind = 6 → 2 < t.kids.length) :
    ACalls Tryd.prog Γ 65 [.ptr b 0, .agg t.enc, .vec (env.map Bd.enc) false, .agg a.enc] (Hp H b c f) (Ends H b (behindR rn t env a c f)) := by
  have he' : EL (B - f.toNat) env := EL_mono (by omega) he
  refine acalls_of_awp Tryd.func65 rfl (by simp [Tryd.f65]) fun hbd => ?_
  refine awp_seq ?_
  -- region 0
  refine awp_run rfl (by simp only [fw0, fw1, fw2, fw3, fw4, fw5, fw6, fw7, ↓reduceIte, Nat.reduceAdd, Nat.reduceMul, Nat.reduceEqDiff, Nat.reduceLT, Nat.reduceLeDiff, reduceCtorEq, Bool.false_eq_true, Bool.not_true, Bool.not_false, and_self, Nat.le_refl, ti108, Hp_len, Hp_at, Hp_at0, Hp_seta, Hp_seta0, Hp_get hb, Hp_set hb, Tm.fw, Val.fw, endE_fw] <;> rfl) ?_
  refine awp_seq ?_
  refine awp_seq ?_
  -- region 1
  refine awp_run rfl (by simp only [fw0, fw1, fw2, fw3, fw4, fw5, fw6, fw7, ↓reduceIte, Nat.reduceAdd, Nat.reduceMul, Nat.reduceEqDiff, Nat.reduceLT, Nat.reduceLeDiff, reduceCtorEq, Bool.false_eq_true, Bool.not_true, Bool.not_false, and_self, Nat.le_refl, fl29_0, ti3, Hp_len, Hp_at, Hp_at0, Hp_seta, Hp_seta0, Hp_get hb, Hp_set hb, Tm.fw, Val.fw, endE_fw] <;> rfl) ?_
  refine awp_block ?_
  refine awp_seq ?_
  -- region 2
  refine awp_run rfl (by simp only [fw0, fw1, fw2, fw3, fw4, fw5, fw6, fw7, ↓reduceIte, Nat.reduceAdd, Nat.reduceMul, Nat.reduceEqDiff, Nat.reduceLT, Nat.reduceLeDiff, reduceCtorEq, Bool.false_eq_true, Bool.not_true, Bool.not_false, and_self, Nat.le_refl] <;> rfl) ?_
  refine awp_cond (by simp only [fw0, fw1, fw2, fw3, fw4, fw5, fw6, fw7, ↓reduceIte, Nat.reduceAdd, Nat.reduceMul, Nat.reduceEqDiff, Nat.reduceLT, Nat.reduceLeDiff, reduceCtorEq, Bool.false_eq_true, Bool.not_true, Bool.not_false, and_self, Nat.le_refl] <;> rfl) ?_
  by_cases k5 : t.kind = 5
  · simp only [k5, decide_true, ↓reduceIte]
    have hk1 := hk1' (by omega) (by omega)
    refine awp_seq ?_
    -- region 3 drawn
    refine awp_drawn [0, 0, 1, 0, 1, 0, 0, 1, 1, 0, 2, 2] [0, 0, 2, 6, 14, 0, 0, 64, 0, 480, 1023, 2047] mixed rfl (by kernel_rfl) ?_
    refine dops_run 9 (by simp only [fw0, fw1, fw2, fw3, fw4, fw5, fw6, fw7, ↓reduceIte, Nat.reduceAdd, Nat.reduceMul, Nat.reduceEqDiff, Nat.reduceLT, Nat.reduceLeDiff, reduceCtorEq, Bool.false_eq_true, Bool.not_true, Bool.not_false, and_self, Nat.le_refl, fl29_3, ti27, el27, ti29, fl29_1, ti9, ti44, Hp_len, Hp_at, Hp_at0, Hp_seta, Hp_seta0, Hp_get hb, Hp_set hb, Tm.fw, Val.fw, endE_fw, Int.reduceToNat, Int.reduceLE, true_and, List.getElem?_map, kid_get hk1, Option.map_some] <;> rfl) ?_
    refine dops_fn rfl rfl rfl rfl en36 (c36 Γ env t.name a (by have := he.1; omega)) ?_
    refine dops_call rfl rfl rfl rfl en42 (hT.at hb _ (kid t 1) hf (by omega) (by omega) (EL_bind he (by omega) ha _) hc) ?_
    refine dops_run 1 (by simp only [fw0, fw1, fw2, fw3, fw4, fw5, fw6, fw7, ↓reduceIte, Nat.reduceAdd, Nat.reduceMul, Nat.reduceEqDiff, Nat.reduceLT, Nat.reduceLeDiff, reduceCtorEq, Bool.false_eq_true, Bool.not_true, Bool.not_false, and_self, Nat.le_refl, ti108, Hp_len, Hp_at, Hp_at0, Hp_seta, Hp_seta0, Hp_get hb, Hp_set hb, Tm.fw, Val.fw, endE_fw] <;> rfl) ?_
    refine dops_end ?_
    refine awp_ret ?_
    exact ret_Hp hb (.inl rfl) hbd _ (by simp [ares, aresL, ares1, rd, ev, alook, aput, Tryd.f65, ti108, endE_fw, Hp_at]) (by simp [PV.bd, endE_fw]) (ends_run (by simp only [behindR, if_pos k5]))
  simp only [k5, decide_false, Bool.false_eq_true, ↓reduceIte]
  refine awp_seq ?_
  -- region 4
  refine awp_run rfl (by simp only [fw0, fw1, fw2, fw3, fw4, fw5, fw6, fw7, ↓reduceIte, Nat.reduceAdd, Nat.reduceMul, Nat.reduceEqDiff, Nat.reduceLT, Nat.reduceLeDiff, reduceCtorEq, Bool.false_eq_true, Bool.not_true, Bool.not_false, and_self, Nat.le_refl] <;> rfl) ?_
  refine awp_cond (by simp only [fw0, fw1, fw2, fw3, fw4, fw5, fw6, fw7, ↓reduceIte, Nat.reduceAdd, Nat.reduceMul, Nat.reduceEqDiff, Nat.reduceLT, Nat.reduceLeDiff, reduceCtorEq, Bool.false_eq_true, Bool.not_true, Bool.not_false, and_self, Nat.le_refl] <;> rfl) ?_
  by_cases k13 : t.kind = 13
  · simp only [k13, decide_true, ↓reduceIte]
    have hk1 := hk1' (by omega) (by omega)
    refine awp_seq ?_
    -- region 5
    refine awp_region rfl ?_
    refine aops_run 6 (by simp only [fw0, fw1, fw2, fw3, fw4, fw5, fw6, fw7, ↓reduceIte, Nat.reduceAdd, Nat.reduceMul, Nat.reduceEqDiff, Nat.reduceLT, Nat.reduceLeDiff, reduceCtorEq, Bool.false_eq_true, Bool.not_true, Bool.not_false, and_self, Nat.le_refl, fl29_3, ti27, el27, ti29, Hp_len, Hp_at, Hp_at0, Hp_seta, Hp_seta0, Hp_get hb, Hp_set hb, Tm.fw, Val.fw, endE_fw, Int.reduceToNat, Int.reduceLE, true_and, List.getElem?_map, kid_get hk1, Option.map_some] <;> rfl) ?_
    refine aops_call rfl rfl rfl en42 ((hT.at hb _ (kid t 1) hf (by omega) (by omega) he' hc).mono fun p H' hp => ?_)
    obtain ⟨rfl, rfl⟩ := hp
    refine aops_run 1 (by simp only [fw0, fw1, fw2, fw3, fw4, fw5, fw6, fw7, ↓reduceIte, Nat.reduceAdd, Nat.reduceMul, Nat.reduceEqDiff, Nat.reduceLT, Nat.reduceLeDiff, reduceCtorEq, Bool.false_eq_true, Bool.not_true, Bool.not_false, and_self, Nat.le_refl, ti108, Hp_len, Hp_at, Hp_at0, Hp_seta, Hp_seta0, Hp_get hb, Hp_set hb, Tm.fw, Val.fw, endE_fw] <;> rfl) ?_
    refine awp_ret ?_
    exact ret_Hp hb (.inl rfl) hbd _ (by simp [ares, aresL, ares1, rd, ev, alook, aput, Tryd.f65, ti108, endE_fw, Hp_at]) (by simp [PV.bd, endE_fw]) (ends_run (by simp only [behindR, if_neg k5, if_pos k13]))
  simp only [k13, decide_false, Bool.false_eq_true, ↓reduceIte]
  refine awp_seq ?_
  -- region 6
  refine awp_run rfl (by simp only [fw0, fw1, fw2, fw3, fw4, fw5, fw6, fw7, ↓reduceIte, Nat.reduceAdd, Nat.reduceMul, Nat.reduceEqDiff, Nat.reduceLT, Nat.reduceLeDiff, reduceCtorEq, Bool.false_eq_true, Bool.not_true, Bool.not_false, and_self, Nat.le_refl] <;> rfl) ?_
  refine awp_cond (by simp only [fw0, fw1, fw2, fw3, fw4, fw5, fw6, fw7, ↓reduceIte, Nat.reduceAdd, Nat.reduceMul, Nat.reduceEqDiff, Nat.reduceLT, Nat.reduceLeDiff, reduceCtorEq, Bool.false_eq_true, Bool.not_true, Bool.not_false, and_self, Nat.le_refl] <;> rfl) ?_
  by_cases k6 : t.kind = 6
  · simp only [k6, decide_true, ↓reduceIte]
    have hk1 := hk1' (by omega) (by omega)
    have hk2 := hk2' k6
    refine awp_seq ?_
    refine awp_block ?_
    refine awp_seq ?_
    -- region 7
    refine awp_region rfl ?_
    refine aops_run 1 (by simp only [fw0, fw1, fw2, fw3, fw4, fw5, fw6, fw7, ↓reduceIte, Nat.reduceAdd, Nat.reduceMul, Nat.reduceEqDiff, Nat.reduceLT, Nat.reduceLeDiff, reduceCtorEq, Bool.false_eq_true, Bool.not_true, Bool.not_false, and_self, Nat.le_refl, ti44, Hp_len, Hp_at, Hp_at0, Hp_seta, Hp_seta0, Hp_get hb, Hp_set hb, Tm.fw, Val.fw, endE_fw] <;> rfl) ?_
    refine aops_fn rfl rfl rfl en71 (c71 Γ a) ?_
    refine aops_run 2 (by simp only [fw0, fw1, fw2, fw3, fw4, fw5, fw6, fw7, ↓reduceIte, Nat.reduceAdd, Nat.reduceMul, Nat.reduceEqDiff, Nat.reduceLT, Nat.reduceLeDiff, reduceCtorEq, Bool.false_eq_true, Bool.not_true, Bool.not_false, and_self, Nat.le_refl] <;> rfl) ?_
    refine awp_cond (by simp only [fw0, fw1, fw2, fw3, fw4, fw5, fw6, fw7, ↓reduceIte, Nat.reduceAdd, Nat.reduceMul, Nat.reduceEqDiff, Nat.reduceLT, Nat.reduceLeDiff, reduceCtorEq, Bool.false_eq_true, Bool.not_true, Bool.not_false, and_self, Nat.le_refl] <;> rfl) ?_
    by_cases h1 : a.kind = 1
    rotate_left
    · simp only [h1, decide_false, Bool.not_false, ↓reduceIte]
      refine awp_seq ?_
      -- region 8
      refine awp_region rfl ?_
      refine aops_fn rfl rfl rfl en60 (c60 Γ) ?_
      refine aops_run 1 (by simp only [fw0, fw1, fw2, fw3, fw4, fw5, fw6, fw7, ↓reduceIte, Nat.reduceAdd, Nat.reduceMul, Nat.reduceEqDiff, Nat.reduceLT, Nat.reduceLeDiff, reduceCtorEq, Bool.false_eq_true, Bool.not_true, Bool.not_false, and_self, Nat.le_refl, ti108, Hp_len, Hp_at, Hp_at0, Hp_seta, Hp_seta0, Hp_get hb, Hp_set hb, Tm.fw, Val.fw, endE_fw] <;> rfl) ?_
      refine awp_ret ?_
      exact ret_Hp hb (p := .agg (endE 3 zeroV)) (.inl rfl) hbd _ (by simp [ares, aresL, ares1, rd, ev, alook, aput, Tryd.f65, ti108, endE_fw, Hp_at]) (by simp [PV.bd, endE_fw]) (ends_of rfl (by simp only [behindR, if_neg k5, if_neg k13, if_pos k6, if_neg h1]; rfl))
    simp only [h1, decide_true, Bool.not_true, Bool.false_eq_true, ↓reduceIte]
    refine awp_seq ?_
    -- region 9
    refine awp_run rfl (by simp only [fw0, fw1, fw2, fw3, fw4, fw5, fw6, fw7, ↓reduceIte, Nat.reduceAdd, Nat.reduceMul, Nat.reduceEqDiff, Nat.reduceLT, Nat.reduceLeDiff, reduceCtorEq, Bool.false_eq_true, Bool.not_true, Bool.not_false, and_self, Nat.le_refl, fl44_1, ti2, Hp_len, Hp_at, Hp_at0, Hp_seta, Hp_seta0, Hp_get hb, Hp_set hb, Tm.fw, Val.fw, endE_fw] <;> rfl) ?_
    refine awp_cond (by simp only [fw0, fw1, fw2, fw3, fw4, fw5, fw6, fw7, ↓reduceIte, Nat.reduceAdd, Nat.reduceMul, Nat.reduceEqDiff, Nat.reduceLT, Nat.reduceLeDiff, reduceCtorEq, Bool.false_eq_true, Bool.not_true, Bool.not_false, and_self, Nat.le_refl] <;> rfl) ?_
    by_cases h0 : a.n = 0
    rotate_left
    · simp only [h0, decide_false, Bool.not_false, ↓reduceIte]
      refine awp_seq ?_
      -- region 10
      refine awp_region rfl ?_
      refine aops_run 6 (by simp only [fw0, fw1, fw2, fw3, fw4, fw5, fw6, fw7, ↓reduceIte, Nat.reduceAdd, Nat.reduceMul, Nat.reduceEqDiff, Nat.reduceLT, Nat.reduceLeDiff, reduceCtorEq, Bool.false_eq_true, Bool.not_true, Bool.not_false, and_self, Nat.le_refl, fl29_3, ti27, el27, ti29, Hp_len, Hp_at, Hp_at0, Hp_seta, Hp_seta0, Hp_get hb, Hp_set hb, Tm.fw, Val.fw, endE_fw, Int.reduceToNat, Int.reduceLE, true_and, List.getElem?_map, kid_get hk1, Option.map_some] <;> rfl) ?_
      refine aops_call rfl rfl rfl en42 ((hT.at hb _ (kid t 1) hf (by omega) (by omega) he' hc).mono fun p H' hp => ?_)
      obtain ⟨rfl, rfl⟩ := hp
      refine aops_run 1 (by simp only [fw0, fw1, fw2, fw3, fw4, fw5, fw6, fw7, ↓reduceIte, Nat.reduceAdd, Nat.reduceMul, Nat.reduceEqDiff, Nat.reduceLT, Nat.reduceLeDiff, reduceCtorEq, Bool.false_eq_true, Bool.not_true, Bool.not_false, and_self, Nat.le_refl, ti108, Hp_len, Hp_at, Hp_at0, Hp_seta, Hp_seta0, Hp_get hb, Hp_set hb, Tm.fw, Val.fw, endE_fw] <;> rfl) ?_
      refine awp_ret ?_
      exact ret_Hp hb (.inl rfl) hbd _ (by simp [ares, aresL, ares1, rd, ev, alook, aput, Tryd.f65, ti108, endE_fw, Hp_at]) (by simp [PV.bd, endE_fw]) (ends_run (by simp only [behindR, if_neg k5, if_neg k13, if_pos k6, if_pos h1, if_neg h0]))
    simp only [h0, decide_true, Bool.not_true, Bool.false_eq_true, ↓reduceIte]
    refine awp_skip ?_
    simp only [Post.block, Post.then]
    refine awp_seq ?_
    -- region 11
    refine awp_region rfl ?_
    refine aops_run 6 (by simp only [fw0, fw1, fw2, fw3, fw4, fw5, fw6, fw7, ↓reduceIte, Nat.reduceAdd, Nat.reduceMul, Nat.reduceEqDiff, Nat.reduceLT, Nat.reduceLeDiff, reduceCtorEq, Bool.false_eq_true, Bool.not_true, Bool.not_false, and_self, Nat.le_refl, fl29_3, ti27, el27, ti29, Hp_len, Hp_at, Hp_at0, Hp_seta, Hp_seta0, Hp_get hb, Hp_set hb, Tm.fw, Val.fw, endE_fw, Int.reduceToNat, Int.reduceLE, true_and, List.getElem?_map, kid_get hk2, Option.map_some] <;> rfl) ?_
    refine aops_call rfl rfl rfl en42 ((hT.at hb _ (kid t 2) hf (by omega) (by omega) he' hc).mono fun p H' hp => ?_)
    obtain ⟨rfl, rfl⟩ := hp
    refine aops_run 1 (by simp only [fw0, fw1, fw2, fw3, fw4, fw5, fw6, fw7, ↓reduceIte, Nat.reduceAdd, Nat.reduceMul, Nat.reduceEqDiff, Nat.reduceLT, Nat.reduceLeDiff, reduceCtorEq, Bool.false_eq_true, Bool.not_true, Bool.not_false, and_self, Nat.le_refl, ti108, Hp_len, Hp_at, Hp_at0, Hp_seta, Hp_seta0, Hp_get hb, Hp_set hb, Tm.fw, Val.fw, endE_fw] <;> rfl) ?_
    refine awp_ret ?_
    exact ret_Hp hb (.inl rfl) hbd _ (by simp [ares, aresL, ares1, rd, ev, alook, aput, Tryd.f65, ti108, endE_fw, Hp_at]) (by simp [PV.bd, endE_fw]) (ends_run (by simp only [behindR, if_neg k5, if_neg k13, if_pos k6, if_pos h1, if_pos h0]))
  simp only [k6, decide_false, Bool.false_eq_true, ↓reduceIte]
  refine awp_seq ?_
  -- region 12
  refine awp_run rfl (by simp only [fw0, fw1, fw2, fw3, fw4, fw5, fw6, fw7, ↓reduceIte, Nat.reduceAdd, Nat.reduceMul, Nat.reduceEqDiff, Nat.reduceLT, Nat.reduceLeDiff, reduceCtorEq, Bool.false_eq_true, Bool.not_true, Bool.not_false, and_self, Nat.le_refl] <;> rfl) ?_
  refine awp_cond (by simp only [fw0, fw1, fw2, fw3, fw4, fw5, fw6, fw7, ↓reduceIte, Nat.reduceAdd, Nat.reduceMul, Nat.reduceEqDiff, Nat.reduceLT, Nat.reduceLeDiff, reduceCtorEq, Bool.false_eq_true, Bool.not_true, Bool.not_false, and_self, Nat.le_refl] <;> rfl) ?_
  by_cases k8 : t.kind = 8
  · simp only [k8, decide_true, ↓reduceIte]
    refine awp_seq ?_
    refine awp_seq ?_
    -- region 13
    refine awp_region rfl ?_
    refine aops_run 1 (by simp only [fw0, fw1, fw2, fw3, fw4, fw5, fw6, fw7, ↓reduceIte, Nat.reduceAdd, Nat.reduceMul, Nat.reduceEqDiff, Nat.reduceLT, Nat.reduceLeDiff, reduceCtorEq, Bool.false_eq_true, Bool.not_true, Bool.not_false, and_self, Nat.le_refl, ti44, Hp_len, Hp_at, Hp_at0, Hp_seta, Hp_seta0, Hp_get hb, Hp_set hb, Tm.fw, Val.fw, endE_fw] <;> rfl) ?_
    refine aops_fn rfl rfl rfl en71 (c71 Γ a) ?_
    refine aops_run 1 (by simp only [fw0, fw1, fw2, fw3, fw4, fw5, fw6, fw7, ↓reduceIte, Nat.reduceAdd, Nat.reduceMul, Nat.reduceEqDiff, Nat.reduceLT, Nat.reduceLeDiff, reduceCtorEq, Bool.false_eq_true, Bool.not_true, Bool.not_false, and_self, Nat.le_refl] <;> rfl) ?_
    refine awp_cond (by simp only [fw0, fw1, fw2, fw3, fw4, fw5, fw6, fw7, ↓reduceIte, Nat.reduceAdd, Nat.reduceMul, Nat.reduceEqDiff, Nat.reduceLT, Nat.reduceLeDiff, reduceCtorEq, Bool.false_eq_true, Bool.not_true, Bool.not_false, and_self, Nat.le_refl] <;> rfl) ?_
    by_cases h1 : a.kind = 1
    rotate_left
    · simp only [h1, decide_false, Bool.not_false, ↓reduceIte]
      refine awp_seq ?_
      -- region 14
      refine awp_region rfl ?_
      refine aops_fn rfl rfl rfl en60 (c60 Γ) ?_
      refine aops_run 1 (by simp only [fw0, fw1, fw2, fw3, fw4, fw5, fw6, fw7, ↓reduceIte, Nat.reduceAdd, Nat.reduceMul, Nat.reduceEqDiff, Nat.reduceLT, Nat.reduceLeDiff, reduceCtorEq, Bool.false_eq_true, Bool.not_true, Bool.not_false, and_self, Nat.le_refl, ti108, Hp_len, Hp_at, Hp_at0, Hp_seta, Hp_seta0, Hp_get hb, Hp_set hb, Tm.fw, Val.fw, endE_fw] <;> rfl) ?_
      refine awp_ret ?_
      exact ret_Hp hb (p := .agg (endE 3 zeroV)) (.inl rfl) hbd _ (by simp [ares, aresL, ares1, rd, ev, alook, aput, Tryd.f65, ti108, endE_fw, Hp_at]) (by simp [PV.bd, endE_fw]) (ends_of rfl (by simp only [behindR, if_neg k5, if_neg k13, if_neg k6, if_pos k8, if_neg h1]; rfl))
    simp only [h1, decide_true, Bool.not_true, Bool.false_eq_true, ↓reduceIte]
    refine awp_skip ?_
    refine awp_seq ?_
    -- region 15
    refine awp_run rfl (by simp only [fw0, fw1, fw2, fw3, fw4, fw5, fw6, fw7, ↓reduceIte, Nat.reduceAdd, Nat.reduceMul, Nat.reduceEqDiff, Nat.reduceLT, Nat.reduceLeDiff, reduceCtorEq, Bool.false_eq_true, Bool.not_true, Bool.not_false, and_self, Nat.le_refl, ti44, ti108, pl108, Hp_len, Hp_at, Hp_at0, Hp_seta, Hp_seta0, Hp_get hb, Hp_set hb, Tm.fw, Val.fw, endE_fw, show ∀ v : Val, [PV.int .i64 2] ++ v.enc = endE 2 v from fun _ => rfl] <;> rfl) ?_
    refine awp_ret ?_
    exact ret_Hp hb (p := .agg (endE 2 a)) (.inl rfl) hbd _ (by simp [ares, aresL, ares1, rd, ev, alook, aput, Tryd.f65, ti108, endE, Val.fw, Hp_at]) (by simp [PV.bd, endE_fw]) (ends_of rfl (by simp only [behindR, if_neg k5, if_neg k13, if_neg k6, if_pos k8, if_pos h1]))
  simp only [k8, decide_false, Bool.false_eq_true, ↓reduceIte]
  refine awp_seq ?_
  -- region 16
  refine awp_run rfl (by simp only [fw0, fw1, fw2, fw3, fw4, fw5, fw6, fw7, ↓reduceIte, Nat.reduceAdd, Nat.reduceMul, Nat.reduceEqDiff, Nat.reduceLT, Nat.reduceLeDiff, reduceCtorEq, Bool.false_eq_true, Bool.not_true, Bool.not_false, and_self, Nat.le_refl] <;> rfl) ?_
  refine awp_cond (by simp only [fw0, fw1, fw2, fw3, fw4, fw5, fw6, fw7, ↓reduceIte, Nat.reduceAdd, Nat.reduceMul, Nat.reduceEqDiff, Nat.reduceLT, Nat.reduceLeDiff, reduceCtorEq, Bool.false_eq_true, Bool.not_true, Bool.not_false, and_self, Nat.le_refl] <;> rfl) ?_
  by_cases k10 : t.kind = 10
  · simp only [k10, decide_true, ↓reduceIte]
    refine awp_seq ?_
    -- region 17 drawn
    refine awp_drawn [0, 0, 0, 1, 0, 1, 0, 0, 0, 0, 0, 0] [0, 1, 3, 7, 0, 16, 63, 127, 255, 255, 511, 2047] mixed rfl (by kernel_rfl) ?_
    refine dops_run 6 (by simp only [fw0, fw1, fw2, fw3, fw4, fw5, fw6, fw7, ↓reduceIte, Nat.reduceAdd, Nat.reduceMul, Nat.reduceEqDiff, Nat.reduceLT, Nat.reduceLeDiff, reduceCtorEq, Bool.false_eq_true, Bool.not_true, Bool.not_false, and_self, Nat.le_refl, fl106_0, ti45, fl44_2, ti9, Hp_len, Hp_at, Hp_at0, Hp_seta, Hp_seta0, Hp_get hb, Hp_set hb, Tm.fw, Val.fw, endE_fw] <;> rfl) ?_
    refine dops_fn rfl rfl rfl rfl en72 (c72 Γ c a.name) ?_
    refine dops_run 5 (by simp only [fw0, fw1, fw2, fw3, fw4, fw5, fw6, fw7, ↓reduceIte, Nat.reduceAdd, Nat.reduceMul, Nat.reduceEqDiff, Nat.reduceLT, Nat.reduceLeDiff, reduceCtorEq, Bool.false_eq_true, Bool.not_true, Bool.not_false, and_self, Nat.le_refl, readP] <;> rfl) ?_
    refine dops_end ?_
    generalize hok : (readV c a.name).isSome = ok
    generalize hnn : (readV c a.name).getD 0 = nn
    have enc73 : ∀ q : Bool, (if q = true then endE 1 (wholeV nn) else endE 3 zeroV).length = 9 := fun q => by cases q <;> simp [endE_fw]
    have fin : ∀ (A' : List (Nat × PV)) (q : Bool), (q = true ↔ (ok = true ∧ a.kind = 2)) → (alook A' 8 = .ptr (H.length + 2) 0) → ∀ L : List Blk, L[2]? = some (.box (if q = true then endE 1 (wholeV nn) else endE 3 zeroV)) → RetQ Tryd.prog Γ Tryd.f65 (Hp H b c f).length (Ends H b (behindR rn t env a c f)) .ret A' (Hp H b c f ++ L) [] := fun A' q hq h8 L hL => by
      cases q with
      | true => exact ret_Hp hb (p := .agg (endE 1 (wholeV nn))) (.inl rfl) hbd _ (by simp [ares, aresL, ares1, rd, ev, h8, Tryd.f65, ti108, endE_fw, Hp_at, hL]) (by simp [PV.bd, endE_fw]) (ends_of rfl (by simp only [behindR, if_neg k5, if_neg k13, if_neg k6, if_neg k8, if_pos k10, hok, hnn, if_pos (hq.1 rfl)]))
      | false => exact ret_Hp hb (p := .agg (endE 3 zeroV)) (.inl rfl) hbd _ (by simp [ares, aresL, ares1, rd, ev, h8, Tryd.f65, ti108, endE_fw, Hp_at, hL]) (by simp [PV.bd, endE_fw]) (ends_of rfl (by simp only [behindR, if_neg k5, if_neg k13, if_neg k6, if_neg k8, if_pos k10, hok, hnn, if_neg (fun h => by cases hq.2 h)]; rfl))
    refine awp_seq ?_
    -- region 18
    refine awp_region rfl ?_
    by_cases h1 : ok = true
    rotate_left
    · have h1' : ok = false := by simpa using h1
      subst h1'
      refine aops_run 7 (by simp only [fw0, fw1, fw2, fw3, fw4, fw5, fw6, fw7, ↓reduceIte, Nat.reduceAdd, Nat.reduceMul, Nat.reduceEqDiff, Nat.reduceLT, Nat.reduceLeDiff, reduceCtorEq, Bool.false_eq_true, Bool.not_true, Bool.not_false, and_self, Nat.le_refl, fl44_0, ti3, Hp_len, Hp_at, Hp_at0, Hp_seta, Hp_seta0, Hp_get hb, Hp_set hb, Tm.fw, Val.fw, endE_fw] <;> rfl) ?_
      refine aops_fn rfl rfl rfl en73 (c73 Γ nn false) ?_
      refine aops_run 1 (by simp only [fw0, fw1, fw2, fw3, fw4, fw5, fw6, fw7, ↓reduceIte, Nat.reduceAdd, Nat.reduceMul, Nat.reduceEqDiff, Nat.reduceLT, Nat.reduceLeDiff, reduceCtorEq, Bool.false_eq_true, Bool.not_true, Bool.not_false, and_self, Nat.le_refl, ti108, Hp_len, Hp_at, Hp_at0, Hp_seta, Hp_seta0, Hp_get hb, Hp_set hb, Tm.fw, Val.fw, endE_fw, enc73] <;> rfl) ?_
      exact awp_ret (fin _ false (by simp) rfl _ rfl)
    subst h1
    refine aops_run 7 (by simp only [fw0, fw1, fw2, fw3, fw4, fw5, fw6, fw7, ↓reduceIte, Nat.reduceAdd, Nat.reduceMul, Nat.reduceEqDiff, Nat.reduceLT, Nat.reduceLeDiff, reduceCtorEq, Bool.false_eq_true, Bool.not_true, Bool.not_false, and_self, Nat.le_refl, fl44_0, ti3, Hp_len, Hp_at, Hp_at0, Hp_seta, Hp_seta0, Hp_get hb, Hp_set hb, Tm.fw, Val.fw, endE_fw] <;> rfl) ?_
    refine aops_fn rfl rfl rfl en73 (c73 Γ nn (decide (a.kind = 2))) ?_
    refine aops_run 1 (by simp only [fw0, fw1, fw2, fw3, fw4, fw5, fw6, fw7, ↓reduceIte, Nat.reduceAdd, Nat.reduceMul, Nat.reduceEqDiff, Nat.reduceLT, Nat.reduceLeDiff, reduceCtorEq, Bool.false_eq_true, Bool.not_true, Bool.not_false, and_self, Nat.le_refl, ti108, Hp_len, Hp_at, Hp_at0, Hp_seta, Hp_seta0, Hp_get hb, Hp_set hb, Tm.fw, Val.fw, endE_fw, enc73] <;> rfl) ?_
    exact awp_ret (fin _ (decide (a.kind = 2)) (by simp) rfl _ rfl)
  simp only [k10, decide_false, Bool.false_eq_true, ↓reduceIte]
  refine awp_skip ?_
  simp only [Post.block, Post.then]
  have hk1 := hk1' k8 k10
  have hr : behindR rn t env a c f = (if (rn (kid t 1) env c f).st = 1 then bothR rn t a (rn (kid t 1) env c f).v (rn (kid t 1) env c f).c (rn (kid t 1) env c f).f else rn (kid t 1) env c f) := by
    simp only [behindR, if_neg k5, if_neg k13, if_neg k6, if_neg k8, if_neg k10]
  obtain ⟨hi, hi'⟩ := hI (kid t 1) env c f hf (by omega) he'
  rw [hr]
  refine awp_seq ?_
  -- region 19
  refine awp_region rfl ?_
  refine aops_run 6 (by simp only [fw0, fw1, fw2, fw3, fw4, fw5, fw6, fw7, ↓reduceIte, Nat.reduceAdd, Nat.reduceMul, Nat.reduceEqDiff, Nat.reduceLT, Nat.reduceLeDiff, reduceCtorEq, Bool.false_eq_true, Bool.not_true, Bool.not_false, and_self, Nat.le_refl, fl29_3, ti27, el27, ti29, Hp_len, Hp_at, Hp_at0, Hp_seta, Hp_seta0, Hp_get hb, Hp_set hb, Tm.fw, Val.fw, endE_fw, Int.reduceToNat, Int.reduceLE, true_and, List.getElem?_map, kid_get hk1, Option.map_some] <;> rfl) ?_
  refine aops_call rfl rfl rfl en42 ((hT.at hb _ (kid t 1) hf (by omega) (by omega) he' hc).mono fun p H' hp => ?_)
  obtain ⟨rfl, rfl⟩ := hp
  generalize rn (kid t 1) env c f = r at hi hi' ⊢
  have hrp := hi.pos hf0
  have hrl := hi.le
  refine aops_run 2 (by simp only [fw0, fw1, fw2, fw3, fw4, fw5, fw6, fw7, ↓reduceIte, Nat.reduceAdd, Nat.reduceMul, Nat.reduceEqDiff, Nat.reduceLT, Nat.reduceLeDiff, reduceCtorEq, Bool.false_eq_true, Bool.not_true, Bool.not_false, and_self, Nat.le_refl, ti108, Hp_len, Hp_at, Hp_at0, Hp_seta, Hp_seta0, Hp_get hb, Hp_set hb, Tm.fw, Val.fw, endE_fw] <;> rfl) ?_
  refine awp_seq ?_
  refine awp_seq ?_
  -- region 20
  refine awp_run rfl (by simp only [fw0, fw1, fw2, fw3, fw4, fw5, fw6, fw7, ↓reduceIte, Nat.reduceAdd, Nat.reduceMul, Nat.reduceEqDiff, Nat.reduceLT, Nat.reduceLeDiff, reduceCtorEq, Bool.false_eq_true, Bool.not_true, Bool.not_false, and_self, Nat.le_refl, fl108_0, ti3, Hp_len, Hp_at, Hp_at0, Hp_seta, Hp_seta0, Hp_get hb, Hp_set hb, Tm.fw, Val.fw, endE_fw] <;> rfl) ?_
  refine awp_cond (by simp only [fw0, fw1, fw2, fw3, fw4, fw5, fw6, fw7, ↓reduceIte, Nat.reduceAdd, Nat.reduceMul, Nat.reduceEqDiff, Nat.reduceLT, Nat.reduceLeDiff, reduceCtorEq, Bool.false_eq_true, Bool.not_true, Bool.not_false, and_self, Nat.le_refl] <;> rfl) ?_
  by_cases hst : r.st = 1
  rotate_left
  · simp only [hst, decide_false, Bool.not_false, ↓reduceIte]
    refine awp_seq ?_
    -- region 21
    refine awp_run rfl (by simp only [fw0, fw1, fw2, fw3, fw4, fw5, fw6, fw7, ↓reduceIte, Nat.reduceAdd, Nat.reduceMul, Nat.reduceEqDiff, Nat.reduceLT, Nat.reduceLeDiff, reduceCtorEq, Bool.false_eq_true, Bool.not_true, Bool.not_false, and_self, Nat.le_refl, ti108, Hp_len, Hp_at, Hp_at0, Hp_seta, Hp_seta0, Hp_get hb, Hp_set hb, Tm.fw, Val.fw, endE_fw] <;> rfl) ?_
    refine awp_ret ?_
    exact ret_Hp hb (.inl rfl) hbd _ (by simp [ares, aresL, ares1, rd, ev, alook, aput, Tryd.f65, ti108, endE_fw, Hp_at]) (by simp [PV.bd, endE_fw]) (ends_run rfl)
  have hlt := hi'.resolve_left (by omega)
  simp only [hst, decide_true, Bool.not_true, Bool.false_eq_true, ↓reduceIte]
  refine awp_skip ?_
  refine awp_seq ?_
  -- region 22
  refine awp_region rfl ?_
  refine aops_run 5 (by simp only [fw0, fw1, fw2, fw3, fw4, fw5, fw6, fw7, ↓reduceIte, Nat.reduceAdd, Nat.reduceMul, Nat.reduceEqDiff, Nat.reduceLT, Nat.reduceLeDiff, reduceCtorEq, Bool.false_eq_true, Bool.not_true, Bool.not_false, and_self, Nat.le_refl, ti29, ti44, fl108_1, Hp_len, Hp_at, Hp_at0, Hp_seta, Hp_seta0, Hp_get hb, Hp_set hb, Tm.fw, Val.fw, endE_fw] <;> rfl) ?_
  have hcall := c74 Γ hT hB (H ++ [Blk.box t.enc, Blk.box a.enc, Blk.box (endZ 0), Blk.box (endE 1 r.v)]) b t a r.v r.c r.f (by rw [List.length_append]; omega) (by omega) hrp (by omega) (EB_mono (by omega) ha) hi.v (by rw [hi.c]; exact hc)
  rw [Hp_app hb] at hcall
  refine aops_call rfl rfl rfl en74 (hcall.mono fun p H' hp => ?_)
  obtain ⟨rfl, rfl⟩ := hp
  rw [Hp_app hb]
  refine aops_run 1 (by simp only [fw0, fw1, fw2, fw3, fw4, fw5, fw6, fw7, ↓reduceIte, Nat.reduceAdd, Nat.reduceMul, Nat.reduceEqDiff, Nat.reduceLT, Nat.reduceLeDiff, reduceCtorEq, Bool.false_eq_true, Bool.not_true, Bool.not_false, and_self, Nat.le_refl, ti108, Hp_len, Hp_at, Hp_at0, Hp_seta, Hp_seta0, Hp_get hb, Hp_set hb, Tm.fw, Val.fw, endE_fw] <;> rfl) ?_
  refine awp_ret ?_
  exact ret_Hp hb (.inl rfl) hbd _ (by simp [ares, aresL, ares1, rd, ev, alook, aput, Tryd.f65, ti108, endE_fw, Hp_at]) (by simp [PV.bd, endE_fw]) (ends_run rfl)

end Go.Proofs.YtnjlfbefpoecpaaDoor

/- The contract of a loop of a run. -/
namespace Go.Proofs.YtnjlfbefpoecpaaDoor
set_option linter.unusedVariables false
set_option linter.unusedSimpArgs false
set_option maxRecDepth 100000
open Go.RowKit Fw

theorem Val_d8 (v : Val) : v.enc.drop 8 = [] := List.drop_of_length_le (by simp [Val.fw])
theorem endE_d9 (st : Int) (v : Val) : (endE st v).drop 9 = [] := List.drop_of_length_le (by simp [endE_fw])

theorem loopR_st {rn : Runner} {t : Tm} {env : List Bd} {c : List Sl} {f : Int} (h : (rn (kid t 0) env c f).st ≠ 1) : loopR rn t env c f = rn (kid t 0) env c f := by
  simp only [loopR, if_neg h]
theorem loopR_stuck {rn : Runner} {t : Tm} {env : List Bd} {c : List Sl} {f : Int} (h : (rn (kid t 0) env c f).st = 1) (h1 : (rn (kid t 0) env c f).v.kind ≠ 1) : loopR rn t env c f = stuckR (rn (kid t 0) env c f).c (rn (kid t 0) env c f).f := by
  simp only [loopR, if_pos h, if_neg h1]
theorem loopR_zero {rn : Runner} {t : Tm} {env : List Bd} {c : List Sl} {f : Int} (h : (rn (kid t 0) env c f).st = 1) (h1 : (rn (kid t 0) env c f).v.kind = 1) (h2 : (rn (kid t 0) env c f).v.n = 0) : loopR rn t env c f = ⟨1, wholeV 0, (rn (kid t 0) env c f).c, (rn (kid t 0) env c f).f⟩ := by
  simp only [loopR, if_pos h, if_pos h1, if_pos h2]
theorem loopR_body {rn : Runner} {t : Tm} {env : List Bd} {c : List Sl} {f : Int} {a b : Res} (ha : rn (kid t 0) env c f = a) (hb : rn (kid t 1) env a.c a.f = b) (h : a.st = 1) (h1 : a.v.kind = 1) (h2 : a.v.n ≠ 0) : loopR rn t env c f = if b.st = 1 then rn t env b.c b.f else b := by
  subst ha hb
  simp only [loopR, if_pos h, if_pos h1, if_neg h2]
theorem run_loop {m : Nat} {t : Tm} {env : List Bd} {c : List Sl} {f : Int} (h0 : 0 < f) (hr : right t) (h7 : t.kind = 7) : run (m + 1) t env c f = loopR (run m) t env c (f - 1) := by
  simp only [run, if_neg (show ¬ f ≤ 0 by omega), if_pos hr, stepR, h7]
  rfl

/-- What a loop leaves behind. -/
def LoopFin (H : List Blk) (b : Nat) (t : Tm) (R : Res) : Post := fun e A' H' D' =>
  e = .exit 0 ∧ D' = [] ∧ alook A' 6 = .ptr (H.length + 1) 0 ∧ ∃ cs L, PV.leL cs (endE R.st R.v) ∧ H' = Hp H b R.c R.f ++ (.box t.enc :: .box cs :: L)

structure LS where
  m : Nat
  c : List Sl
  f : Int
  o : List PV

/-- run.loop -/
theorem c64 (Γ : Nat → PV) {B n : Nat} (hT : ∀ m, m ≤ n → TermC Γ B m (run m)) (hB : B * 128 ≤ reachBytes) (H : List Blk) (b : Nat) (t : Tm) (env : List Bd) (c : List Sl) (f : Int) (hb : b < H.length) (hf : f ≤ n) (hf0 : 0 ≤ f) (hfB : f.toNat ≤ B)
    (he : EL (B - f.toNat) env) (hc : c.length * 24 ≤ reachBytes) (hr : right t) (h7 : t.kind = 7) :
    ACalls Tryd.prog Γ 64 [.ptr b 0, .agg t.enc, .vec (env.map Bd.enc) false] (Hp H b c f) (Ends H b (loopR (run n) t env c f)) := by
  have hkl : t.kids.length = 2 := by
    have := hr.2.2
    rw [h7, show kidsOf.getD (Int.toNat 7) 0 = 2 from rfl] at this
    omega
  have hk0 : 0 < t.kids.length := by omega
  have hk1 : 1 < t.kids.length := by omega
  refine acalls_of_awp Tryd.func64 rfl (by simp [Tryd.f64]) fun hbd => ?_
  refine awp_seq ?_
  -- region 0
  refine awp_run rfl (by simp only [fw0, fw1, fw2, fw3, fw4, fw5, fw6, fw7, ↓reduceIte, Nat.reduceAdd, Nat.reduceMul, Nat.reduceEqDiff, Nat.reduceLT, Nat.reduceLeDiff, reduceCtorEq, Bool.false_eq_true, Bool.not_true, Bool.not_false, and_self, Nat.le_refl, ti108, Hp_len, Hp_at, Hp_at0, Hp_seta, Hp_seta0, Hp_get hb, Hp_set hb, Tm.fw, Val.fw, endE_fw, List.take_zero, List.nil_append] <;> rfl) ?_
  refine awp_scope ?_
  refine awp_seq ?_
  -- region 1
  refine awp_run rfl (by simp only [fw0, fw1, fw2, fw3, fw4, fw5, fw6, fw7, ↓reduceIte, Nat.reduceAdd, Nat.reduceMul, Nat.reduceEqDiff, Nat.reduceLT, Nat.reduceLeDiff, reduceCtorEq, Bool.false_eq_true, Bool.not_true, Bool.not_false, and_self, Nat.le_refl] <;> rfl) ?_
  refine awp_seq ?_
  refine awp_label ?_
  refine awp_seq ?_
  refine awp_block ?_
  refine AWP.mono (Q := LoopFin H b t (loopR (run n) t env c f)) ?_ fun e A' H' D' hq => ?_
  rotate_left
  · obtain ⟨rfl, rfl, h6, cs, L, hle, rfl⟩ := hq
    have hcl : cs.length = 9 := by rw [PV.leL_len hle]; simp [endE_fw]
    have hct : cs.take 9 = cs := List.take_of_length_le (by omega)
    have hcd : cs.drop 9 = [] := List.drop_of_length_le (by omega)
    simp only [Post.block, Post.then, Post.noGoto, ↓reduceIte]
    refine awp_told (told_leBox (H.length + 1) (cs := cs) (by rw [Hp_at]; rfl) hle) ?_
    refine awp_heap (H' := Hp H b (loopR (run n) t env c f).c (loopR (run n) t env c f).f ++ (.box t.enc :: .box (endE (loopR (run n) t env c f).st (loopR (run n) t env c f).v) :: L)) (by rw [Hp_seta]; rfl) ?_
    refine awp_seq ?_
    -- region 14
    refine awp_run rfl (by simp only [fw0, fw1, fw2, fw3, fw4, fw5, fw6, fw7, ↓reduceIte, Nat.reduceAdd, Nat.reduceMul, Nat.reduceEqDiff, Nat.reduceLT, Nat.reduceLeDiff, reduceCtorEq, Bool.false_eq_true, Bool.not_true, Bool.not_false, and_self, Nat.le_refl, ti108, h6, Hp_len, Hp_at, Hp_at0, Hp_seta, Hp_seta0, Hp_get hb, Hp_set hb, Tm.fw, Val.fw, endE_fw, List.take_zero, List.nil_append] <;> rfl) ?_
    refine awp_ret ?_
    exact ret_Hp hb (.inl rfl) hbd _ (by simp [ares, aresL, ares1, rd, ev, alook, aput, Tryd.f64, ti108, endE_fw, Hp_at, h6]) (by simp [PV.bd, endE_fw]) (ends_run rfl)
  refine awp_forG [0, 2, 4, 6, 7] (fun _ : LS => [.ptr b 0, .vec (env.map Bd.enc) false, .ptr H.length 0, .ptr (H.length + 1) 0, .func (.func 42) [.ptr b 0] []]) (fun s => Hp H b s.c s.f ++ [.box t.enc, .box s.o]) (fun s => s.f.toNat)
    (fun s => s.m ≤ n ∧ s.f ≤ s.m ∧ 0 ≤ s.f ∧ s.f.toNat ≤ B ∧ EL (B - s.f.toNat) env ∧ s.c.length * 24 ≤ reachBytes ∧ s.o.length = 9 ∧ PV.bdL 0 s.o = true ∧ loopR (run n) t env c f = loopR (run s.m) t env s.c s.f) ⟨n, c, f, endZ 0⟩ rfl rfl ⟨Nat.le_refl _, hf, hf0, hfB, he, hc, rfl, rfl, rfl⟩ ?_ ?_ fun s hs => ?_
  · intro s hs
    have hlen : (Hp H b s.c s.f ++ [Blk.box t.enc, .box s.o]).length = H.length + 2 := by simp [Hp_len]
    refine ⟨bd_app (by rw [Hp_len]; exact Hp_bd hb hbd _ _) ?_, by rw [hlen]; simp [PV.bdL, PV.bd]; omega⟩
    simp [Blk.bd, Tm.fw, PV.bdL_mono (Nat.zero_le _) s.o hs.2.2.2.2.2.2.2.1]
  · intro s _ x hx
    cases hx
  obtain ⟨m, c1, f1, o⟩ := s
  obtain ⟨hm, hfm, hf10, hf1B, he1, hc1, ho, hob, hR⟩ := hs
  dsimp only at hm hfm hf10 hf1B he1 hc1 ho hob hR ⊢
  rw [hR]
  have hTm := hT m hm
  obtain ⟨ia, ia'⟩ := run_inv B m (kid t 0) env c1 f1 hfm hf1B he1
  have iap := ia.pos hf10
  have ial := ia.le
  have hdo : o.drop 9 = [] := List.drop_of_length_le (by omega)
  refine awp_block ?_
  refine awp_seq ?_
  -- region 2
  refine awp_region rfl ?_
  refine aops_run 6 (by simp only [fw0, fw1, fw2, fw3, fw4, fw5, fw6, fw7, ↓reduceIte, Nat.reduceAdd, Nat.reduceMul, Nat.reduceEqDiff, Nat.reduceLT, Nat.reduceLeDiff, reduceCtorEq, Bool.false_eq_true, Bool.not_true, Bool.not_false, and_self, Nat.le_refl, fl29_3, ti27, el27, ti29, Hp_len, Hp_at, Hp_at0, Hp_seta, Hp_seta0, Hp_get hb, Hp_set hb, Tm.fw, Val.fw, endE_fw, List.take_zero, List.nil_append, Int.reduceToNat, Int.reduceLE, true_and, List.getElem?_map, kid_get hk0, Option.map_some] <;> rfl) ?_
  refine aops_call rfl rfl rfl en42 ((hTm.at hb [.box t.enc, .box o] (kid t 0) hfm (by omega) hf1B he1 hc1).mono fun p H' hp => ?_)
  obtain ⟨rfl, rfl⟩ := hp
  generalize ha : run m (kid t 0) env c1 f1 = a at ia ia' iap ial ⊢
  refine aops_run 2 (by simp only [fw0, fw1, fw2, fw3, fw4, fw5, fw6, fw7, ↓reduceIte, Nat.reduceAdd, Nat.reduceMul, Nat.reduceEqDiff, Nat.reduceLT, Nat.reduceLeDiff, reduceCtorEq, Bool.false_eq_true, Bool.not_true, Bool.not_false, and_self, Nat.le_refl, ti108, Hp_len, Hp_at, Hp_at0, Hp_seta, Hp_seta0, Hp_get hb, Hp_set hb, Tm.fw, Val.fw, endE_fw, List.take_zero, List.nil_append] <;> rfl) ?_
  refine awp_seq ?_
  refine awp_block ?_
  refine awp_seq ?_
  -- region 3
  refine awp_run rfl (by simp only [fw0, fw1, fw2, fw3, fw4, fw5, fw6, fw7, ↓reduceIte, Nat.reduceAdd, Nat.reduceMul, Nat.reduceEqDiff, Nat.reduceLT, Nat.reduceLeDiff, reduceCtorEq, Bool.false_eq_true, Bool.not_true, Bool.not_false, and_self, Nat.le_refl, fl108_0, ti3, Hp_len, Hp_at, Hp_at0, Hp_seta, Hp_seta0, Hp_get hb, Hp_set hb, Tm.fw, Val.fw, endE_fw, List.take_zero, List.nil_append] <;> rfl) ?_
  refine awp_cond (by simp only [fw0, fw1, fw2, fw3, fw4, fw5, fw6, fw7, ↓reduceIte, Nat.reduceAdd, Nat.reduceMul, Nat.reduceEqDiff, Nat.reduceLT, Nat.reduceLeDiff, reduceCtorEq, Bool.false_eq_true, Bool.not_true, Bool.not_false, and_self, Nat.le_refl] <;> rfl) ?_
  by_cases hst : a.st = 1
  rotate_left
  · simp only [hst, decide_false, Bool.not_false, ↓reduceIte]
    refine awp_seq ?_
    -- region 4
    refine awp_run rfl (by simp only [fw0, fw1, fw2, fw3, fw4, fw5, fw6, fw7, ↓reduceIte, Nat.reduceAdd, Nat.reduceMul, Nat.reduceEqDiff, Nat.reduceLT, Nat.reduceLeDiff, reduceCtorEq, Bool.false_eq_true, Bool.not_true, Bool.not_false, and_self, Nat.le_refl, ti108, Hp_len, Hp_at, Hp_at0, Hp_seta, Hp_seta0, Hp_get hb, Hp_set hb, Tm.fw, Val.fw, endE_fw, List.take_zero, List.nil_append, ho, hdo] <;> rfl) ?_
    refine awp_exit ?_
    rw [loopR_st (by rw [ha]; exact hst), ha]
    exact ⟨rfl, rfl, rfl, _, _, PV.leL_refl _, rfl⟩
  simp only [hst, decide_true, Bool.not_true, Bool.false_eq_true, ↓reduceIte]
  refine awp_seq ?_
  -- region 5
  refine awp_region rfl ?_
  refine aops_run 2 (by simp only [fw0, fw1, fw2, fw3, fw4, fw5, fw6, fw7, ↓reduceIte, Nat.reduceAdd, Nat.reduceMul, Nat.reduceEqDiff, Nat.reduceLT, Nat.reduceLeDiff, reduceCtorEq, Bool.false_eq_true, Bool.not_true, Bool.not_false, and_self, Nat.le_refl, fl108_1, ti44, Hp_len, Hp_at, Hp_at0, Hp_seta, Hp_seta0, Hp_get hb, Hp_set hb, Tm.fw, Val.fw, endE_fw, List.take_zero, List.nil_append] <;> rfl) ?_
  refine aops_fn rfl rfl rfl en71 (c71 Γ a.v) ?_
  refine aops_run 2 (by simp only [fw0, fw1, fw2, fw3, fw4, fw5, fw6, fw7, ↓reduceIte, Nat.reduceAdd, Nat.reduceMul, Nat.reduceEqDiff, Nat.reduceLT, Nat.reduceLeDiff, reduceCtorEq, Bool.false_eq_true, Bool.not_true, Bool.not_false, and_self, Nat.le_refl] <;> rfl) ?_
  refine awp_cond (by simp only [fw0, fw1, fw2, fw3, fw4, fw5, fw6, fw7, ↓reduceIte, Nat.reduceAdd, Nat.reduceMul, Nat.reduceEqDiff, Nat.reduceLT, Nat.reduceLeDiff, reduceCtorEq, Bool.false_eq_true, Bool.not_true, Bool.not_false, and_self, Nat.le_refl] <;> rfl) ?_
  by_cases h1 : a.v.kind = 1
  rotate_left
  · simp only [h1, decide_false, Bool.not_false, ↓reduceIte]
    refine awp_seq ?_
    -- region 6
    refine awp_region rfl ?_
    refine aops_fn rfl rfl rfl en60 (c60 Γ) ?_
    refine aops_run 1 (by simp only [fw0, fw1, fw2, fw3, fw4, fw5, fw6, fw7, ↓reduceIte, Nat.reduceAdd, Nat.reduceMul, Nat.reduceEqDiff, Nat.reduceLT, Nat.reduceLeDiff, reduceCtorEq, Bool.false_eq_true, Bool.not_true, Bool.not_false, and_self, Nat.le_refl, ti108, Hp_len, Hp_at, Hp_at0, Hp_seta, Hp_seta0, Hp_get hb, Hp_set hb, Tm.fw, Val.fw, endE_fw, List.take_zero, List.nil_append, ho, hdo] <;> rfl) ?_
    refine awp_exit ?_
    rw [loopR_stuck (by rw [ha]; exact hst) (by rw [ha]; exact h1), ha]
    exact ⟨rfl, rfl, rfl, _, _, PV.leL_refl _, rfl⟩
  simp only [h1, decide_true, Bool.not_true, Bool.false_eq_true, ↓reduceIte]
  refine awp_seq ?_
  -- region 7
  refine awp_run rfl (by simp only [fw0, fw1, fw2, fw3, fw4, fw5, fw6, fw7, ↓reduceIte, Nat.reduceAdd, Nat.reduceMul, Nat.reduceEqDiff, Nat.reduceLT, Nat.reduceLeDiff, reduceCtorEq, Bool.false_eq_true, Bool.not_true, Bool.not_false, and_self, Nat.le_refl, fl108_1, fl44_1, ti2, Hp_len, Hp_at, Hp_at0, Hp_seta, Hp_seta0, Hp_get hb, Hp_set hb, Tm.fw, Val.fw, endE_fw, List.take_zero, List.nil_append] <;> rfl) ?_
  refine awp_cond (by simp only [fw0, fw1, fw2, fw3, fw4, fw5, fw6, fw7, ↓reduceIte, Nat.reduceAdd, Nat.reduceMul, Nat.reduceEqDiff, Nat.reduceLT, Nat.reduceLeDiff, reduceCtorEq, Bool.false_eq_true, Bool.not_true, Bool.not_false, and_self, Nat.le_refl] <;> rfl) ?_
  by_cases h0 : a.v.n = 0
  · simp only [h0, decide_true, ↓reduceIte]
    refine awp_seq ?_
    -- region 8
    refine awp_region rfl ?_
    refine aops_fn rfl rfl rfl en61 (c61 Γ 0) ?_
    refine aops_run 1 (by simp only [fw0, fw1, fw2, fw3, fw4, fw5, fw6, fw7, ↓reduceIte, Nat.reduceAdd, Nat.reduceMul, Nat.reduceEqDiff, Nat.reduceLT, Nat.reduceLeDiff, reduceCtorEq, Bool.false_eq_true, Bool.not_true, Bool.not_false, and_self, Nat.le_refl, ti108, Hp_len, Hp_at, Hp_at0, Hp_seta, Hp_seta0, Hp_get hb, Hp_set hb, Tm.fw, Val.fw, endE_fw, List.take_zero, List.nil_append, ho, hdo] <;> rfl) ?_
    refine awp_exit ?_
    rw [loopR_zero (by rw [ha]; exact hst) (by rw [ha]; exact h1) (by rw [ha]; exact h0), ha]
    exact ⟨rfl, rfl, rfl, _, _, PV.leL_refl _, rfl⟩
  simp only [h0, decide_false, Bool.false_eq_true, ↓reduceIte]
  refine awp_skip ?_
  simp only [Post.block, Post.then]
  refine awp_seq ?_
  refine awp_seq ?_
  -- region 9
  obtain ⟨ib, ib'⟩ := run_inv B m (kid t 1) env a.c a.f (by omega) (by omega) (EL_mono (by omega) he1)
  have ibp := ib.pos iap
  have ibl := ib.le
  refine awp_region rfl ?_
  refine aops_run 6 (by simp only [fw0, fw1, fw2, fw3, fw4, fw5, fw6, fw7, ↓reduceIte, Nat.reduceAdd, Nat.reduceMul, Nat.reduceEqDiff, Nat.reduceLT, Nat.reduceLeDiff, reduceCtorEq, Bool.false_eq_true, Bool.not_true, Bool.not_false, and_self, Nat.le_refl, fl29_3, ti27, el27, ti29, Hp_len, Hp_at, Hp_at0, Hp_seta, Hp_seta0, Hp_get hb, Hp_set hb, Tm.fw, Val.fw, endE_fw, List.take_zero, List.nil_append, Int.reduceToNat, Int.reduceLE, true_and, List.getElem?_map, kid_get hk1, Option.map_some] <;> rfl) ?_
  refine aops_call rfl rfl rfl en42 ((hTm.at hb [.box t.enc, .box o, .box (endE 1 a.v)] (kid t 1) (f := a.f) (c := a.c) (by omega) (by omega) (by omega) (EL_mono (by omega) he1) (by rw [ia.c]; exact hc1)).mono fun p H' hp => ?_)
  obtain ⟨rfl, rfl⟩ := hp
  have hbody := fun r (hr : run m (kid t 1) env a.c a.f = r) => loopR_body (env := env) ha hr hst h1 h0
  generalize hbb : run m (kid t 1) env a.c a.f = r at ib ib' ibp ibl ⊢
  rw [hbody r hbb]
  refine aops_run 1 (by simp only [fw0, fw1, fw2, fw3, fw4, fw5, fw6, fw7, ↓reduceIte, Nat.reduceAdd, Nat.reduceMul, Nat.reduceEqDiff, Nat.reduceLT, Nat.reduceLeDiff, reduceCtorEq, Bool.false_eq_true, Bool.not_true, Bool.not_false, and_self, Nat.le_refl, ti108, Hp_len, Hp_at, Hp_at0, Hp_seta, Hp_seta0, Hp_get hb, Hp_set hb, Tm.fw, Val.fw, endE_fw, List.take_zero, List.nil_append, ho, hdo] <;> rfl) ?_
  refine awp_seq ?_
  -- region 10
  refine awp_run rfl (by simp only [fw0, fw1, fw2, fw3, fw4, fw5, fw6, fw7, ↓reduceIte, Nat.reduceAdd, Nat.reduceMul, Nat.reduceEqDiff, Nat.reduceLT, Nat.reduceLeDiff, reduceCtorEq, Bool.false_eq_true, Bool.not_true, Bool.not_false, and_self, Nat.le_refl, fl108_0, ti3, Hp_len, Hp_at, Hp_at0, Hp_seta, Hp_seta0, Hp_get hb, Hp_set hb, Tm.fw, Val.fw, endE_fw, List.take_zero, List.nil_append] <;> rfl) ?_
  refine awp_cond (by simp only [fw0, fw1, fw2, fw3, fw4, fw5, fw6, fw7, ↓reduceIte, Nat.reduceAdd, Nat.reduceMul, Nat.reduceEqDiff, Nat.reduceLT, Nat.reduceLeDiff, reduceCtorEq, Bool.false_eq_true, Bool.not_true, Bool.not_false, and_self, Nat.le_refl] <;> rfl) ?_
  by_cases hst2 : r.st = 1
  rotate_left
  · simp only [hst2, decide_false, Bool.not_false, ↓reduceIte]
    refine awp_exit ?_
    exact ⟨rfl, rfl, rfl, _, _, PV.leL_refl _, rfl⟩
  simp only [hst2, decide_true, Bool.not_true, Bool.false_eq_true, ↓reduceIte]
  refine awp_skip ?_
  refine awp_seq ?_
  refine awp_seq ?_
  -- region 11
  refine awp_run rfl (by simp only [fw0, fw1, fw2, fw3, fw4, fw5, fw6, fw7, ↓reduceIte, Nat.reduceAdd, Nat.reduceMul, Nat.reduceEqDiff, Nat.reduceLT, Nat.reduceLeDiff, reduceCtorEq, Bool.false_eq_true, Bool.not_true, Bool.not_false, and_self, Nat.le_refl, fl106_1, ti3, Hp_len, Hp_at, Hp_at0, Hp_seta, Hp_seta0, Hp_get hb, Hp_set hb, Tm.fw, Val.fw, endE_fw, List.take_zero, List.nil_append] <;> rfl) ?_
  refine awp_cond (by simp only [fw0, fw1, fw2, fw3, fw4, fw5, fw6, fw7, ↓reduceIte, Nat.reduceAdd, Nat.reduceMul, Nat.reduceEqDiff, Nat.reduceLT, Nat.reduceLeDiff, reduceCtorEq, Bool.false_eq_true, Bool.not_true, Bool.not_false, and_self, Nat.le_refl] <;> rfl) ?_
  have iaf := ia'.resolve_left (by omega)
  have ibf := ib'.resolve_left (by omega)
  by_cases hfu : r.f ≤ 0
  · simp only [hfu, decide_true, ↓reduceIte]
    refine awp_seq ?_
    -- region 12
    refine awp_run rfl (by simp only [fw0, fw1, fw2, fw3, fw4, fw5, fw6, fw7, ↓reduceIte, Nat.reduceAdd, Nat.reduceMul, Nat.reduceEqDiff, Nat.reduceLT, Nat.reduceLeDiff, reduceCtorEq, Bool.false_eq_true, Bool.not_true, Bool.not_false, and_self, Nat.le_refl, ti108, pl108, Hp_len, Hp_at, Hp_at0, Hp_seta, Hp_seta0, Hp_get hb, Hp_set hb, Tm.fw, Val.fw, endE_fw, List.take_zero, List.nil_append, endE_d9, Val_d8] <;> rfl) ?_
    refine awp_exit ?_
    rw [run_spent hfu]
    exact ⟨rfl, rfl, rfl, endZ 0, _, endZ_le 0, rfl⟩
  simp only [hfu, decide_false, Bool.false_eq_true, ↓reduceIte]
  refine awp_skip ?_
  have hw : IntKind.i64.wrap (r.f - 1) = r.f - 1 := by
    obtain ⟨k, hk⟩ : ∃ k : Nat, r.f = ((k + 1 : Nat) : Int) := ⟨(r.f - 1).toNat, by omega⟩
    rw [hk, predN k (by unfold reachBytes at hB; omega)]; omega
  -- region 13
  refine awp_run rfl (by simp only [fw0, fw1, fw2, fw3, fw4, fw5, fw6, fw7, ↓reduceIte, Nat.reduceAdd, Nat.reduceMul, Nat.reduceEqDiff, Nat.reduceLT, Nat.reduceLeDiff, reduceCtorEq, Bool.false_eq_true, Bool.not_true, Bool.not_false, and_self, Nat.le_refl, fl106_1, ti3, hw, Hp_len, Hp_at, Hp_at0, Hp_seta, Hp_seta0, Hp_get hb, Hp_set hb, Tm.fw, Val.fw, endE_fw, List.take_zero, List.nil_append] <;> rfl) ?_
  obtain ⟨m', rfl⟩ : ∃ m', m = m' + 1 := ⟨m - 1, by omega⟩
  refine ⟨⟨m', r.c, r.f - 1, endE 1 r.v⟩, [.box (endE 1 a.v)], by dsimp only; omega, ⟨by dsimp only; omega, by dsimp only; omega, by dsimp only; omega, by dsimp only; omega, EL_mono (by dsimp only; omega) he1, by dsimp only; rw [ib.c, ia.c]; exact hc1, by simp [endE_fw], by simp [endE_fw], ?_⟩, rfl, by simp, rfl, by simp [Hp_len]⟩
  exact run_loop (by omega) hr h7

end Go.Proofs.YtnjlfbefpoecpaaDoor

/- The contract of a run of a term. -/
namespace Go.Proofs.YtnjlfbefpoecpaaDoor
set_option linter.unusedVariables false
set_option linter.unusedSimpArgs false
set_option maxRecDepth 100000
open Go.RowKit Fw

/-- The program's table of how many kids the kinds have. -/
def TabK (Γ : Nat → PV) : Prop := Γ 0 = .cptr (kidsOf.map fun z => .int .i64 z)

theorem el132 : elOf Tryd.prog 132 = none := by kernel_rfl
theorem ar132 : arOf Tryd.prog 132 = some (14, 1) := by kernel_rfl

theorem right_kids {t : Tm} (h : right t) (h1 : t.kind ≠ 1) (h2 : t.kind ≠ 2) : 0 < t.kids.length ∧ (t.kind ≠ 3 → t.kind ≠ 8 → t.kind ≠ 10 → 1 < t.kids.length) ∧ (t.kind = 6 → 2 < t.kids.length) := by
  obtain ⟨k0, k1, k2⟩ := h
  have : t.kind = 0 ∨ t.kind = 1 ∨ t.kind = 2 ∨ t.kind = 3 ∨ t.kind = 4 ∨ t.kind = 5 ∨ t.kind = 6 ∨ t.kind = 7 ∨ t.kind = 8 ∨ t.kind = 9 ∨ t.kind = 10 ∨ t.kind = 11 ∨ t.kind = 12 ∨ t.kind = 13 := by omega
  rcases this with e | e | e | e | e | e | e | e | e | e | e | e | e | e <;> rw [e] at k2 <;> simp [kidsOf] at k2 <;> omega

theorem run_step {n : Nat} {t : Tm} {env : List Bd} {c : List Sl} {f : Int} (h0 : ¬ f ≤ 0) (hr : right t) : run (n + 1) t env c f = stepR (run n) t env c (f - 1) := by
  simp only [run, if_neg h0, if_pos hr]
theorem run_wrong {n : Nat} {t : Tm} {env : List Bd} {c : List Sl} {f : Int} (h0 : ¬ f ≤ 0) (hr : ¬ right t) : run (n + 1) t env c f = stuckR c (f - 1) := by
  simp only [run, if_neg h0, if_neg hr]

/-- run.term, one depth -/
theorem c42s (Γ : Nat → PV) (hΓ : TabK Γ) {B : Nat} (hB : B * 128 ≤ reachBytes) (n : Nat) (hTn : ∀ m, m < n → TermC Γ B m (run m)) : TermC Γ B n (run n) := by
  intro H b t env c f hb hf hfl hfB he hc
  refine acalls_of_awp Tryd.func42 rfl (by simp [Tryd.f42]) fun hbd => ?_
  refine awp_vlen 2 rfl fun hel => ?_
  refine awp_seq ?_
  -- region 0
  refine awp_run rfl (by simp only [fw0, fw1, fw2, fw3, fw4, fw5, fw6, fw7, ↓reduceIte, Nat.reduceAdd, Nat.reduceMul, Nat.reduceEqDiff, Nat.reduceLT, Nat.reduceLeDiff, reduceCtorEq, Bool.false_eq_true, Bool.not_true, Bool.not_false, and_self, Nat.le_refl, ti108, Hp_len, Hp_at, Hp_at0, Hp_seta, Hp_seta0, Hp_get hb, Hp_set hb, Tm.fw, Val.fw, endE_fw] <;> rfl) ?_
  refine awp_seq ?_
  refine awp_seq ?_
  -- region 1
  refine awp_run rfl (by simp only [fw0, fw1, fw2, fw3, fw4, fw5, fw6, fw7, ↓reduceIte, Nat.reduceAdd, Nat.reduceMul, Nat.reduceEqDiff, Nat.reduceLT, Nat.reduceLeDiff, reduceCtorEq, Bool.false_eq_true, Bool.not_true, Bool.not_false, and_self, Nat.le_refl, fl106_1, ti3, Hp_len, Hp_at, Hp_at0, Hp_seta, Hp_seta0, Hp_get hb, Hp_set hb, Tm.fw, Val.fw, endE_fw] <;> rfl) ?_
  refine awp_cond (by simp only [fw0, fw1, fw2, fw3, fw4, fw5, fw6, fw7, ↓reduceIte, Nat.reduceAdd, Nat.reduceMul, Nat.reduceEqDiff, Nat.reduceLT, Nat.reduceLeDiff, reduceCtorEq, Bool.false_eq_true, Bool.not_true, Bool.not_false, and_self, Nat.le_refl] <;> rfl) ?_
  by_cases h0 : f ≤ 0
  · simp only [h0, decide_true, ↓reduceIte]
    refine awp_seq ?_
    -- region 2
    refine awp_run rfl (by simp only [fw0, fw1, fw2, fw3, fw4, fw5, fw6, fw7, ↓reduceIte, Nat.reduceAdd, Nat.reduceMul, Nat.reduceEqDiff, Nat.reduceLT, Nat.reduceLeDiff, reduceCtorEq, Bool.false_eq_true, Bool.not_true, Bool.not_false, and_self, Nat.le_refl, ti108, pl108, Hp_len, Hp_at, Hp_at0, Hp_seta, Hp_seta0, Hp_get hb, Hp_set hb, Tm.fw, Val.fw, endE_fw] <;> rfl) ?_
    refine awp_told (told_leBox (H.length + 1) (cs := endZ 0) (by rw [Hp_at]; rfl) (endZ_le 0)) ?_
    refine awp_heap (H' := Hp H b c f ++ [.box t.enc, .box (endE 0 zeroV)]) (by rw [Hp_seta]; rfl) ?_
    refine awp_ret ?_
    exact ret_Hp hb (p := .agg (endE 0 zeroV)) (.inl rfl) hbd _ (by simp [ares, aresL, ares1, rd, ev, alook, aput, Tryd.f42, ti108, endE_fw, Hp_at]) (by simp [PV.bd, endE_fw]) (ends_of rfl (run_spent h0))
  simp only [h0, decide_false, Bool.false_eq_true, ↓reduceIte]
  refine awp_skip ?_
  obtain ⟨k, rfl⟩ : ∃ k, n = k + 1 := ⟨n - 1, by omega⟩
  have hT : ∀ m, m ≤ k → TermC Γ B m (run m) := fun m hm => hTn m (by omega)
  have hTk := hT k (Nat.le_refl _)
  have hw : IntKind.i64.wrap (f - 1) = f - 1 := by
    obtain ⟨j, hj⟩ : ∃ j : Nat, f = ((j + 1 : Nat) : Int) := ⟨(f - 1).toNat, by omega⟩
    rw [hj, predN j (by unfold reachBytes at hB; omega)]; omega
  refine awp_seq ?_
  -- region 3
  refine awp_run rfl (by simp only [fw0, fw1, fw2, fw3, fw4, fw5, fw6, fw7, ↓reduceIte, Nat.reduceAdd, Nat.reduceMul, Nat.reduceEqDiff, Nat.reduceLT, Nat.reduceLeDiff, reduceCtorEq, Bool.false_eq_true, Bool.not_true, Bool.not_false, and_self, Nat.le_refl, fl106_1, ti3, hw, Hp_len, Hp_at, Hp_at0, Hp_seta, Hp_seta0, Hp_get hb, Hp_set hb, Tm.fw, Val.fw, endE_fw] <;> rfl) ?_
  generalize hg : f - 1 = g
  have hg0 : 0 ≤ g := by omega
  have hgk : g ≤ k := by omega
  have hgB : g.toNat + 1 ≤ B := by omega
  have he2 : EL (B - (g.toNat + 1)) env := EL_mono (by omega) he
  have he1 : EL (B - g.toNat) env := EL_mono (by omega) he
  refine awp_seq ?_
  refine awp_seq ?_
  -- region 4 drawn
  by_cases hneg : t.kind < 0
  · refine awp_drun [0, 1, 0, 0, 0, 1, 0, 0, 0, 0, 1, 0, 1, 0, 1, 0, 0, 0] [0, 1, 3, 7, 15, 31, 63, 127, 255, 511, 1023, 2047, 4095, 511, 8703, 25087, 65535, 131071] mixed (by kernel_rfl) (by kernel_rfl) (by simp only [fw0, fw1, fw2, fw3, fw4, fw5, fw6, fw7, ↓reduceIte, Nat.reduceAdd, Nat.reduceMul, Nat.reduceEqDiff, Nat.reduceLT, Nat.reduceLeDiff, reduceCtorEq, Bool.false_eq_true, Bool.not_true, Bool.not_false, and_self, Nat.le_refl, fl29_0, ti3, el132, ar132, fl29_3, ti27, un27, List.length_map, hneg, decide_true, Hp_len, Hp_at, Hp_at0, Hp_seta, Hp_seta0, Hp_get hb, Hp_set hb, Tm.fw, Val.fw, endE_fw] <;> rfl) ?_
    refine awp_cond (b := true) rfl ?_
    refine awp_seq ?_
    -- region 5
    refine awp_region rfl ?_
    refine aops_fn rfl rfl rfl en60 (c60 Γ) ?_
    refine aops_run 1 (by simp only [fw0, fw1, fw2, fw3, fw4, fw5, fw6, fw7, ↓reduceIte, Nat.reduceAdd, Nat.reduceMul, Nat.reduceEqDiff, Nat.reduceLT, Nat.reduceLeDiff, reduceCtorEq, Bool.false_eq_true, Bool.not_true, Bool.not_false, and_self, Nat.le_refl, ti108, Hp_len, Hp_at, Hp_at0, Hp_seta, Hp_seta0, Hp_get hb, Hp_set hb, Tm.fw, Val.fw, endE_fw] <;> rfl) ?_
    refine awp_ret ?_
    exact ret_Hp hb (p := .agg (endE 3 zeroV)) (.inl rfl) hbd _ (by simp [ares, aresL, ares1, rd, ev, alook, aput, Tryd.f42, ti108, endE_fw, Hp_at]) (by simp [PV.bd, endE_fw]) (ends_of rfl (by rw [run_wrong h0 (fun h => by have := h.1; omega), hg]; rfl))
  by_cases hbig : (14 : Int) ≤ t.kind
  · refine awp_drun [0, 1, 0, 0, 0, 1, 0, 0, 0, 0, 1, 0, 1, 0, 1, 0, 0, 0] [0, 1, 3, 7, 15, 31, 63, 127, 255, 511, 1023, 2047, 4095, 511, 8703, 25087, 65535, 131071] mixed (by kernel_rfl) (by kernel_rfl) (by simp only [fw0, fw1, fw2, fw3, fw4, fw5, fw6, fw7, ↓reduceIte, Nat.reduceAdd, Nat.reduceMul, Nat.reduceEqDiff, Nat.reduceLT, Nat.reduceLeDiff, reduceCtorEq, Bool.false_eq_true, Bool.not_true, Bool.not_false, and_self, Nat.le_refl, fl29_0, ti3, el132, ar132, fl29_3, ti27, un27, List.length_map, hneg, hbig, decide_true, decide_false, Hp_len, Hp_at, Hp_at0, Hp_seta, Hp_seta0, Hp_get hb, Hp_set hb, Tm.fw, Val.fw, endE_fw] <;> rfl) ?_
    refine awp_cond (b := true) rfl ?_
    refine awp_seq ?_
    -- region 5
    refine awp_region rfl ?_
    refine aops_fn rfl rfl rfl en60 (c60 Γ) ?_
    refine aops_run 1 (by simp only [fw0, fw1, fw2, fw3, fw4, fw5, fw6, fw7, ↓reduceIte, Nat.reduceAdd, Nat.reduceMul, Nat.reduceEqDiff, Nat.reduceLT, Nat.reduceLeDiff, reduceCtorEq, Bool.false_eq_true, Bool.not_true, Bool.not_false, and_self, Nat.le_refl, ti108, Hp_len, Hp_at, Hp_at0, Hp_seta, Hp_seta0, Hp_get hb, Hp_set hb, Tm.fw, Val.fw, endE_fw] <;> rfl) ?_
    refine awp_ret ?_
    exact ret_Hp hb (p := .agg (endE 3 zeroV)) (.inl rfl) hbd _ (by simp [ares, aresL, ares1, rd, ev, alook, aput, Tryd.f42, ti108, endE_fw, Hp_at]) (by simp [PV.bd, endE_fw]) (ends_of rfl (by rw [run_wrong h0 (fun h => by have := h.2.1; omega), hg]; rfl))
  have hk0' : (0 : Int) ≤ t.kind := by omega
  have hk14 : t.kind < ((14 : Nat) : Int) := by omega
  have hkd : ((kidsOf.map fun z => PV.int .i64 z).drop (t.kind.toNat * 1))[0]? = some (.int .i64 (kidsOf.getD t.kind.toNat 0)) := by
    have hlt : t.kind.toNat < kidsOf.length := by show _ < 14; omega
    rw [List.getElem?_drop, Nat.mul_one, Nat.add_zero, List.getElem?_map, List.getElem?_eq_getElem hlt]
    simp [List.getD_eq_getElem?_getD, List.getElem?_eq_getElem hlt]
  unfold TabK at hΓ
  refine awp_drun [0, 1, 0, 0, 0, 1, 0, 0, 0, 0, 1, 0, 1, 0, 1, 0, 0, 0] [0, 1, 3, 7, 15, 31, 63, 127, 255, 511, 1023, 2047, 4095, 511, 8703, 25087, 65535, 131071] mixed (by kernel_rfl) (by kernel_rfl) (by simp only [fw0, fw1, fw2, fw3, fw4, fw5, fw6, fw7, ↓reduceIte, Nat.reduceAdd, Nat.reduceMul, Nat.reduceEqDiff, Nat.reduceLT, Nat.reduceLeDiff, reduceCtorEq, Bool.false_eq_true, Bool.not_true, Bool.not_false, and_self, Nat.le_refl, fl29_0, ti3, el132, ar132, fl29_3, ti27, un27, List.length_map, hneg, hbig, decide_false, hΓ, hk0', hk14, hkd, Hp_len, Hp_at, Hp_at0, Hp_seta, Hp_seta0, Hp_get hb, Hp_set hb, Tm.fw, Val.fw, endE_fw] <;> rfl) ?_
  refine awp_cond (by simp only [fw0, fw1, fw2, fw3, fw4, fw5, fw6, fw7, ↓reduceIte, Nat.reduceAdd, Nat.reduceMul, Nat.reduceEqDiff, Nat.reduceLT, Nat.reduceLeDiff, reduceCtorEq, Bool.false_eq_true, Bool.not_true, Bool.not_false, and_self, Nat.le_refl] <;> rfl) ?_
  by_cases hkl : kidsOf.getD t.kind.toNat 0 = (t.kids.length : Int)
  rotate_left
  · simp only [hkl, decide_false, Bool.not_false, ↓reduceIte]
    refine awp_seq ?_
    -- region 5
    refine awp_region rfl ?_
    refine aops_fn rfl rfl rfl en60 (c60 Γ) ?_
    refine aops_run 1 (by simp only [fw0, fw1, fw2, fw3, fw4, fw5, fw6, fw7, ↓reduceIte, Nat.reduceAdd, Nat.reduceMul, Nat.reduceEqDiff, Nat.reduceLT, Nat.reduceLeDiff, reduceCtorEq, Bool.false_eq_true, Bool.not_true, Bool.not_false, and_self, Nat.le_refl, ti108, Hp_len, Hp_at, Hp_at0, Hp_seta, Hp_seta0, Hp_get hb, Hp_set hb, Tm.fw, Val.fw, endE_fw] <;> rfl) ?_
    refine awp_ret ?_
    exact ret_Hp hb (p := .agg (endE 3 zeroV)) (.inl rfl) hbd _ (by simp [ares, aresL, ares1, rd, ev, alook, aput, Tryd.f42, ti108, endE_fw, Hp_at]) (by simp [PV.bd, endE_fw]) (ends_of rfl (by rw [run_wrong h0 (fun h => hkl h.2.2), hg]; rfl))
  have hr : right t := ⟨hk0', by omega, hkl⟩
  have hrun : run (k + 1) t env c f = stepR (run k) t env c g := by rw [run_step h0 hr, hg]
  rw [hrun]
  simp only [hkl, decide_true, Bool.not_true, Bool.false_eq_true, ↓reduceIte]
  refine awp_skip ?_
  refine awp_seq ?_
  refine awp_seq ?_
  -- region 6
  refine awp_run rfl (by simp only [fw0, fw1, fw2, fw3, fw4, fw5, fw6, fw7, ↓reduceIte, Nat.reduceAdd, Nat.reduceMul, Nat.reduceEqDiff, Nat.reduceLT, Nat.reduceLeDiff, reduceCtorEq, Bool.false_eq_true, Bool.not_true, Bool.not_false, and_self, Nat.le_refl, fl29_0, ti3, Hp_len, Hp_at, Hp_at0, Hp_seta, Hp_seta0, Hp_get hb, Hp_set hb, Tm.fw, Val.fw, endE_fw] <;> rfl) ?_
  refine awp_block ?_
  refine awp_seq ?_
  -- region 7
  refine awp_run rfl (by simp only [fw0, fw1, fw2, fw3, fw4, fw5, fw6, fw7, ↓reduceIte, Nat.reduceAdd, Nat.reduceMul, Nat.reduceEqDiff, Nat.reduceLT, Nat.reduceLeDiff, reduceCtorEq, Bool.false_eq_true, Bool.not_true, Bool.not_false, and_self, Nat.le_refl] <;> rfl) ?_
  refine awp_cond (by simp only [fw0, fw1, fw2, fw3, fw4, fw5, fw6, fw7, ↓reduceIte, Nat.reduceAdd, Nat.reduceMul, Nat.reduceEqDiff, Nat.reduceLT, Nat.reduceLeDiff, reduceCtorEq, Bool.false_eq_true, Bool.not_true, Bool.not_false, and_self, Nat.le_refl] <;> rfl) ?_
  by_cases k1 : t.kind = 1
  · simp only [k1, decide_true, ↓reduceIte]
    refine awp_seq ?_
    -- region 8
    refine awp_region rfl ?_
    refine aops_run 2 (by simp only [fw0, fw1, fw2, fw3, fw4, fw5, fw6, fw7, ↓reduceIte, Nat.reduceAdd, Nat.reduceMul, Nat.reduceEqDiff, Nat.reduceLT, Nat.reduceLeDiff, reduceCtorEq, Bool.false_eq_true, Bool.not_true, Bool.not_false, and_self, Nat.le_refl, fl29_2, ti2, Hp_len, Hp_at, Hp_at0, Hp_seta, Hp_seta0, Hp_get hb, Hp_set hb, Tm.fw, Val.fw, endE_fw] <;> rfl) ?_
    refine aops_fn rfl rfl rfl en61 (c61 Γ t.n) ?_
    refine aops_run 1 (by simp only [fw0, fw1, fw2, fw3, fw4, fw5, fw6, fw7, ↓reduceIte, Nat.reduceAdd, Nat.reduceMul, Nat.reduceEqDiff, Nat.reduceLT, Nat.reduceLeDiff, reduceCtorEq, Bool.false_eq_true, Bool.not_true, Bool.not_false, and_self, Nat.le_refl, ti108, Hp_len, Hp_at, Hp_at0, Hp_seta, Hp_seta0, Hp_get hb, Hp_set hb, Tm.fw, Val.fw, endE_fw] <;> rfl) ?_
    refine awp_ret ?_
    exact ret_Hp hb (p := .agg (endE 1 (wholeV t.n))) (.inl rfl) hbd _ (by simp [ares, aresL, ares1, rd, ev, alook, aput, Tryd.f42, ti108, endE_fw, Hp_at]) (by simp [PV.bd, endE_fw]) (ends_of rfl (by simp only [stepR, if_pos k1]))
  simp only [k1, decide_false, Bool.false_eq_true, ↓reduceIte]
  refine awp_seq ?_
  -- region 9
  refine awp_run rfl (by simp only [fw0, fw1, fw2, fw3, fw4, fw5, fw6, fw7, ↓reduceIte, Nat.reduceAdd, Nat.reduceMul, Nat.reduceEqDiff, Nat.reduceLT, Nat.reduceLeDiff, reduceCtorEq, Bool.false_eq_true, Bool.not_true, Bool.not_false, and_self, Nat.le_refl] <;> rfl) ?_
  refine awp_cond (by simp only [fw0, fw1, fw2, fw3, fw4, fw5, fw6, fw7, ↓reduceIte, Nat.reduceAdd, Nat.reduceMul, Nat.reduceEqDiff, Nat.reduceLT, Nat.reduceLeDiff, reduceCtorEq, Bool.false_eq_true, Bool.not_true, Bool.not_false, and_self, Nat.le_refl] <;> rfl) ?_
  by_cases k2 : t.kind = 2
  · simp only [k2, decide_true, ↓reduceIte]
    refine awp_seq ?_
    -- region 10
    refine awp_region rfl ?_
    refine aops_run 3 (by simp only [fw0, fw1, fw2, fw3, fw4, fw5, fw6, fw7, ↓reduceIte, Nat.reduceAdd, Nat.reduceMul, Nat.reduceEqDiff, Nat.reduceLT, Nat.reduceLeDiff, reduceCtorEq, Bool.false_eq_true, Bool.not_true, Bool.not_false, and_self, Nat.le_refl, fl29_1, ti9, Hp_len, Hp_at, Hp_at0, Hp_seta, Hp_seta0, Hp_get hb, Hp_set hb, Tm.fw, Val.fw, endE_fw] <;> rfl) ?_
    refine aops_fn rfl rfl rfl en62 (c62 Γ env t.name) ?_
    refine aops_run 6 (by simp only [fw0, fw1, fw2, fw3, fw4, fw5, fw6, fw7, ↓reduceIte, Nat.reduceAdd, Nat.reduceMul, Nat.reduceEqDiff, Nat.reduceLT, Nat.reduceLeDiff, reduceCtorEq, Bool.false_eq_true, Bool.not_true, Bool.not_false, and_self, Nat.le_refl, lookP, ti44, Hp_len, Hp_at, Hp_at0, Hp_seta, Hp_seta0, Hp_get hb, Hp_set hb, Tm.fw, Val.fw, endE_fw] <;> rfl) ?_
    refine awp_seq ?_
    refine awp_seq ?_
    -- region 11
    refine awp_run rfl (by simp only [fw0, fw1, fw2, fw3, fw4, fw5, fw6, fw7, ↓reduceIte, Nat.reduceAdd, Nat.reduceMul, Nat.reduceEqDiff, Nat.reduceLT, Nat.reduceLeDiff, reduceCtorEq, Bool.false_eq_true, Bool.not_true, Bool.not_false, and_self, Nat.le_refl] <;> rfl) ?_
    refine awp_cond (by simp only [fw0, fw1, fw2, fw3, fw4, fw5, fw6, fw7, ↓reduceIte, Nat.reduceAdd, Nat.reduceMul, Nat.reduceEqDiff, Nat.reduceLT, Nat.reduceLeDiff, reduceCtorEq, Bool.false_eq_true, Bool.not_true, Bool.not_false, and_self, Nat.le_refl] <;> rfl) ?_
    by_cases hlk : (lookV env t.name).isSome = true
    rotate_left
    · have hlk' : (lookV env t.name).isSome = false := by simpa using hlk
      simp only [hlk', Bool.not_false, ↓reduceIte]
      refine awp_seq ?_
      -- region 12
      refine awp_region rfl ?_
      refine aops_fn rfl rfl rfl en60 (c60 Γ) ?_
      refine aops_run 1 (by simp only [fw0, fw1, fw2, fw3, fw4, fw5, fw6, fw7, ↓reduceIte, Nat.reduceAdd, Nat.reduceMul, Nat.reduceEqDiff, Nat.reduceLT, Nat.reduceLeDiff, reduceCtorEq, Bool.false_eq_true, Bool.not_true, Bool.not_false, and_self, Nat.le_refl, ti108, Hp_len, Hp_at, Hp_at0, Hp_seta, Hp_seta0, Hp_get hb, Hp_set hb, Tm.fw, Val.fw, endE_fw] <;> rfl) ?_
      refine awp_ret ?_
      exact ret_Hp hb (p := .agg (endE 3 zeroV)) (.inl rfl) hbd _ (by simp [ares, aresL, ares1, rd, ev, alook, aput, Tryd.f42, ti108, endE_fw, Hp_at]) (by simp [PV.bd, endE_fw]) (ends_of rfl (by simp only [stepR, if_neg k1, if_pos k2, if_neg hlk]; rfl))
    simp only [hlk, Bool.not_true, Bool.false_eq_true, ↓reduceIte]
    refine awp_skip ?_
    refine awp_seq ?_
    -- region 13
    refine awp_region rfl ?_
    refine aops_run 1 (by simp only [fw0, fw1, fw2, fw3, fw4, fw5, fw6, fw7, ↓reduceIte, Nat.reduceAdd, Nat.reduceMul, Nat.reduceEqDiff, Nat.reduceLT, Nat.reduceLeDiff, reduceCtorEq, Bool.false_eq_true, Bool.not_true, Bool.not_false, and_self, Nat.le_refl, ti44, Hp_len, Hp_at, Hp_at0, Hp_seta, Hp_seta0, Hp_get hb, Hp_set hb, Tm.fw, Val.fw, endE_fw] <;> rfl) ?_
    refine aops_fn rfl rfl rfl en63 (c63 Γ _) ?_
    refine aops_run 1 (by simp only [fw0, fw1, fw2, fw3, fw4, fw5, fw6, fw7, ↓reduceIte, Nat.reduceAdd, Nat.reduceMul, Nat.reduceEqDiff, Nat.reduceLT, Nat.reduceLeDiff, reduceCtorEq, Bool.false_eq_true, Bool.not_true, Bool.not_false, and_self, Nat.le_refl, ti108, Hp_len, Hp_at, Hp_at0, Hp_seta, Hp_seta0, Hp_get hb, Hp_set hb, Tm.fw, Val.fw, endE_fw] <;> rfl) ?_
    refine awp_ret ?_
    exact ret_Hp hb (p := .agg (endE 1 ((lookV env t.name).getD zeroV))) (.inl rfl) hbd _ (by simp [ares, aresL, ares1, rd, ev, alook, aput, Tryd.f42, ti108, endE_fw, Hp_at]) (by simp [PV.bd, endE_fw]) (ends_of rfl (by simp only [stepR, if_neg k1, if_pos k2, if_pos hlk]))
  simp only [k2, decide_false, Bool.false_eq_true, ↓reduceIte]
  obtain ⟨hk0, hk1', hk2'⟩ := right_kids hr k1 k2
  refine awp_seq ?_
  -- region 14
  refine awp_run rfl (by simp only [fw0, fw1, fw2, fw3, fw4, fw5, fw6, fw7, ↓reduceIte, Nat.reduceAdd, Nat.reduceMul, Nat.reduceEqDiff, Nat.reduceLT, Nat.reduceLeDiff, reduceCtorEq, Bool.false_eq_true, Bool.not_true, Bool.not_false, and_self, Nat.le_refl] <;> rfl) ?_
  refine awp_cond (by simp only [fw0, fw1, fw2, fw3, fw4, fw5, fw6, fw7, ↓reduceIte, Nat.reduceAdd, Nat.reduceMul, Nat.reduceEqDiff, Nat.reduceLT, Nat.reduceLeDiff, reduceCtorEq, Bool.false_eq_true, Bool.not_true, Bool.not_false, and_self, Nat.le_refl] <;> rfl) ?_
  by_cases k3 : t.kind = 3
  · simp only [k3, decide_true, ↓reduceIte]
    have g63 := c63 Γ (funV t.name (kid t 0) env)
    rw [fun_enc] at g63
    refine awp_seq ?_
    -- region 15 drawn
    refine awp_drawn [0, 1, 0, 1, 0, 1, 0, 0, 0, 2] [0, 1, 0, 4, 12, 28, 0, 127, 255, 511] mixed rfl (by kernel_rfl) ?_
    refine dops_run 8 (by simp only [fw0, fw1, fw2, fw3, fw4, fw5, fw6, fw7, ↓reduceIte, Nat.reduceAdd, Nat.reduceMul, Nat.reduceEqDiff, Nat.reduceLT, Nat.reduceLeDiff, reduceCtorEq, Bool.false_eq_true, Bool.not_true, Bool.not_false, and_self, Nat.le_refl, fl29_1, ti9, fl29_3, ti27, el27, ti29, ti44, pl44, Hp_len, Hp_at, Hp_at0, Hp_seta, Hp_seta0, Hp_get hb, Hp_set hb, Tm.fw, Val.fw, endE_fw, Int.reduceToNat, Int.reduceLE, true_and, List.getElem?_map, kid_get hk0, Option.map_some] <;> rfl) ?_
    refine dops_fn rfl rfl rfl rfl en63 g63 ?_
    refine dops_run 1 (by simp only [fw0, fw1, fw2, fw3, fw4, fw5, fw6, fw7, ↓reduceIte, Nat.reduceAdd, Nat.reduceMul, Nat.reduceEqDiff, Nat.reduceLT, Nat.reduceLeDiff, reduceCtorEq, Bool.false_eq_true, Bool.not_true, Bool.not_false, and_self, Nat.le_refl, ti108, Hp_len, Hp_at, Hp_at0, Hp_seta, Hp_seta0, Hp_get hb, Hp_set hb, Tm.fw, Val.fw, endE_fw] <;> rfl) ?_
    refine dops_end ?_
    refine awp_ret ?_
    exact ret_Hp hb (p := .agg (endE 1 (funV t.name (kid t 0) env))) (.inl rfl) hbd _ (by simp [ares, aresL, ares1, rd, ev, alook, aput, Tryd.f42, ti108, endE_fw, Hp_at]) (by simp [PV.bd, endE_fw]) (ends_of rfl (by simp only [stepR, if_neg k1, if_neg k2, if_pos k3]))
  simp only [k3, decide_false, Bool.false_eq_true, ↓reduceIte]
  refine awp_seq ?_
  -- region 16
  refine awp_run rfl (by simp only [fw0, fw1, fw2, fw3, fw4, fw5, fw6, fw7, ↓reduceIte, Nat.reduceAdd, Nat.reduceMul, Nat.reduceEqDiff, Nat.reduceLT, Nat.reduceLeDiff, reduceCtorEq, Bool.false_eq_true, Bool.not_true, Bool.not_false, and_self, Nat.le_refl] <;> rfl) ?_
  refine awp_cond (by simp only [fw0, fw1, fw2, fw3, fw4, fw5, fw6, fw7, ↓reduceIte, Nat.reduceAdd, Nat.reduceMul, Nat.reduceEqDiff, Nat.reduceLT, Nat.reduceLeDiff, reduceCtorEq, Bool.false_eq_true, Bool.not_true, Bool.not_false, and_self, Nat.le_refl] <;> rfl) ?_
  by_cases k7 : t.kind = 7
  · simp only [k7, decide_true, ↓reduceIte]
    refine awp_seq ?_
    -- region 17
    refine awp_region rfl ?_
    refine aops_run 3 (by simp only [fw0, fw1, fw2, fw3, fw4, fw5, fw6, fw7, ↓reduceIte, Nat.reduceAdd, Nat.reduceMul, Nat.reduceEqDiff, Nat.reduceLT, Nat.reduceLeDiff, reduceCtorEq, Bool.false_eq_true, Bool.not_true, Bool.not_false, and_self, Nat.le_refl, ti29, Hp_len, Hp_at, Hp_at0, Hp_seta, Hp_seta0, Hp_get hb, Hp_set hb, Tm.fw, Val.fw, endE_fw] <;> rfl) ?_
    have hcall := c64 Γ hT hB (H ++ [Blk.box t.enc, Blk.box (endZ 0)]) b t env c g (by rw [List.length_append]; omega) hgk hg0 (by omega) he1 hc hr k7
    rw [Hp_app hb] at hcall
    refine aops_call rfl rfl rfl en64 (hcall.mono fun p H' hp => ?_)
    obtain ⟨rfl, rfl⟩ := hp
    rw [Hp_app hb]
    refine aops_run 1 (by simp only [fw0, fw1, fw2, fw3, fw4, fw5, fw6, fw7, ↓reduceIte, Nat.reduceAdd, Nat.reduceMul, Nat.reduceEqDiff, Nat.reduceLT, Nat.reduceLeDiff, reduceCtorEq, Bool.false_eq_true, Bool.not_true, Bool.not_false, and_self, Nat.le_refl, ti108, Hp_len, Hp_at, Hp_at0, Hp_seta, Hp_seta0, Hp_get hb, Hp_set hb, Tm.fw, Val.fw, endE_fw] <;> rfl) ?_
    refine awp_ret ?_
    exact ret_Hp hb (.inl rfl) hbd _ (by simp [ares, aresL, ares1, rd, ev, alook, aput, Tryd.f42, ti108, endE_fw, Hp_at, endZ, zeroVP]) (by simp [PV.bd, endE_fw]) (ends_run (by simp only [stepR, if_neg k1, if_neg k2, if_neg k3, if_pos k7]))
  simp only [k7, decide_false, Bool.false_eq_true, ↓reduceIte]
  obtain ⟨ia, ia'⟩ := run_inv B k (kid t 0) env c g hgk (by omega) he1
  have iap := ia.pos hg0
  have ial := ia.le
  refine awp_seq ?_
  -- region 18
  refine awp_run rfl (by simp only [fw0, fw1, fw2, fw3, fw4, fw5, fw6, fw7, ↓reduceIte, Nat.reduceAdd, Nat.reduceMul, Nat.reduceEqDiff, Nat.reduceLT, Nat.reduceLeDiff, reduceCtorEq, Bool.false_eq_true, Bool.not_true, Bool.not_false, and_self, Nat.le_refl] <;> rfl) ?_
  refine awp_cond (by simp only [fw0, fw1, fw2, fw3, fw4, fw5, fw6, fw7, ↓reduceIte, Nat.reduceAdd, Nat.reduceMul, Nat.reduceEqDiff, Nat.reduceLT, Nat.reduceLeDiff, reduceCtorEq, Bool.false_eq_true, Bool.not_true, Bool.not_false, and_self, Nat.le_refl] <;> rfl) ?_
  by_cases k9 : t.kind = 9
  · simp only [k9, decide_true, ↓reduceIte]
    have hk1 := hk1' k3 (by omega) (by omega)
    have hst9 : ∀ a, run k (kid t 0) env c g = a → stepR (run k) t env c g = if a.st = 2 then run k (kid t 1) (env ++ [.mk t.name a.v]) a.c a.f else a := fun a ha => by
      subst ha; simp only [stepR, if_neg k1, if_neg k2, if_neg k3, if_neg k7, if_pos k9]
    refine awp_seq ?_
    -- region 19
    refine awp_region rfl ?_
    refine aops_run 6 (by simp only [fw0, fw1, fw2, fw3, fw4, fw5, fw6, fw7, ↓reduceIte, Nat.reduceAdd, Nat.reduceMul, Nat.reduceEqDiff, Nat.reduceLT, Nat.reduceLeDiff, reduceCtorEq, Bool.false_eq_true, Bool.not_true, Bool.not_false, and_self, Nat.le_refl, fl29_3, ti27, el27, ti29, Hp_len, Hp_at, Hp_at0, Hp_seta, Hp_seta0, Hp_get hb, Hp_set hb, Tm.fw, Val.fw, endE_fw, Int.reduceToNat, Int.reduceLE, true_and, List.getElem?_map, kid_get hk0, Option.map_some] <;> rfl) ?_
    refine aops_call rfl rfl rfl en42 ((hTk.at hb _ (kid t 0) hgk (by omega) (by omega) he1 hc).mono fun p H' hp => ?_)
    obtain ⟨rfl, rfl⟩ := hp
    generalize ha : run k (kid t 0) env c g = a at ia ia' iap ial ⊢
    rw [hst9 a ha]
    refine aops_run 2 (by simp only [fw0, fw1, fw2, fw3, fw4, fw5, fw6, fw7, ↓reduceIte, Nat.reduceAdd, Nat.reduceMul, Nat.reduceEqDiff, Nat.reduceLT, Nat.reduceLeDiff, reduceCtorEq, Bool.false_eq_true, Bool.not_true, Bool.not_false, and_self, Nat.le_refl, ti108, Hp_len, Hp_at, Hp_at0, Hp_seta, Hp_seta0, Hp_get hb, Hp_set hb, Tm.fw, Val.fw, endE_fw] <;> rfl) ?_
    refine awp_seq ?_
    refine awp_seq ?_
    -- region 20
    refine awp_run rfl (by simp only [fw0, fw1, fw2, fw3, fw4, fw5, fw6, fw7, ↓reduceIte, Nat.reduceAdd, Nat.reduceMul, Nat.reduceEqDiff, Nat.reduceLT, Nat.reduceLeDiff, reduceCtorEq, Bool.false_eq_true, Bool.not_true, Bool.not_false, and_self, Nat.le_refl, fl108_0, ti3, Hp_len, Hp_at, Hp_at0, Hp_seta, Hp_seta0, Hp_get hb, Hp_set hb, Tm.fw, Val.fw, endE_fw] <;> rfl) ?_
    refine awp_cond (by simp only [fw0, fw1, fw2, fw3, fw4, fw5, fw6, fw7, ↓reduceIte, Nat.reduceAdd, Nat.reduceMul, Nat.reduceEqDiff, Nat.reduceLT, Nat.reduceLeDiff, reduceCtorEq, Bool.false_eq_true, Bool.not_true, Bool.not_false, and_self, Nat.le_refl] <;> rfl) ?_
    by_cases hst : a.st = 2
    · simp only [hst, decide_true, ↓reduceIte]
      refine awp_seq ?_
      -- region 21 drawn
      refine awp_drawn [0, 0, 1, 0, 1, 0, 0, 1, 0, 1, 0, 2, 2] [0, 0, 2, 6, 14, 0, 0, 64, 0, 256, 992, 2047, 4095] mixed rfl (by kernel_rfl) ?_
      refine dops_run 10 (by simp only [fw0, fw1, fw2, fw3, fw4, fw5, fw6, fw7, ↓reduceIte, Nat.reduceAdd, Nat.reduceMul, Nat.reduceEqDiff, Nat.reduceLT, Nat.reduceLeDiff, reduceCtorEq, Bool.false_eq_true, Bool.not_true, Bool.not_false, and_self, Nat.le_refl, fl29_3, ti27, el27, ti29, fl29_1, ti9, fl108_1, ti44, Hp_len, Hp_at, Hp_at0, Hp_seta, Hp_seta0, Hp_get hb, Hp_set hb, Tm.fw, Val.fw, endE_fw, Int.reduceToNat, Int.reduceLE, true_and, List.getElem?_map, kid_get hk1, Option.map_some] <;> rfl) ?_
      refine dops_fn rfl rfl rfl rfl en36 (c36 Γ env t.name a.v (by have := he2.1; omega)) ?_
      refine dops_call rfl rfl rfl rfl en42 (hTk.at hb _ (kid t 1) (by omega) (by omega) (by omega) (EL_bind he2 (by omega) ia.v _) (by rw [ia.c]; exact hc)) ?_
      refine dops_run 1 (by simp only [fw0, fw1, fw2, fw3, fw4, fw5, fw6, fw7, ↓reduceIte, Nat.reduceAdd, Nat.reduceMul, Nat.reduceEqDiff, Nat.reduceLT, Nat.reduceLeDiff, reduceCtorEq, Bool.false_eq_true, Bool.not_true, Bool.not_false, and_self, Nat.le_refl, ti108, Hp_len, Hp_at, Hp_at0, Hp_seta, Hp_seta0, Hp_get hb, Hp_set hb, Tm.fw, Val.fw, endE_fw] <;> rfl) ?_
      refine dops_end ?_
      refine awp_ret ?_
      exact ret_Hp hb (.inl rfl) hbd _ (by simp [ares, aresL, ares1, rd, ev, alook, aput, Tryd.f42, ti108, endE_fw, Hp_at]) (by simp [PV.bd, endE_fw]) (ends_run rfl)
    simp only [hst, decide_false, Bool.false_eq_true, ↓reduceIte]
    refine awp_skip ?_
    refine awp_seq ?_
    -- region 22
    refine awp_run rfl (by simp only [fw0, fw1, fw2, fw3, fw4, fw5, fw6, fw7, ↓reduceIte, Nat.reduceAdd, Nat.reduceMul, Nat.reduceEqDiff, Nat.reduceLT, Nat.reduceLeDiff, reduceCtorEq, Bool.false_eq_true, Bool.not_true, Bool.not_false, and_self, Nat.le_refl, ti108, Hp_len, Hp_at, Hp_at0, Hp_seta, Hp_seta0, Hp_get hb, Hp_set hb, Tm.fw, Val.fw, endE_fw] <;> rfl) ?_
    refine awp_ret ?_
    exact ret_Hp hb (.inl rfl) hbd _ (by simp [ares, aresL, ares1, rd, ev, alook, aput, Tryd.f42, ti108, endE_fw, Hp_at]) (by simp [PV.bd, endE_fw]) (ends_run rfl)
  simp only [k9, decide_false, Bool.false_eq_true, ↓reduceIte]
  refine awp_skip ?_
  simp only [Post.block, Post.then]
  have hst0 : ∀ a, run k (kid t 0) env c g = a → stepR (run k) t env c g = if a.st = 1 then behindR (run k) t env a.v a.c a.f else a := fun a ha => by
    subst ha; simp only [stepR, if_neg k1, if_neg k2, if_neg k3, if_neg k7, if_neg k9]
  refine awp_seq ?_
  -- region 23
  refine awp_region rfl ?_
  refine aops_run 6 (by simp only [fw0, fw1, fw2, fw3, fw4, fw5, fw6, fw7, ↓reduceIte, Nat.reduceAdd, Nat.reduceMul, Nat.reduceEqDiff, Nat.reduceLT, Nat.reduceLeDiff, reduceCtorEq, Bool.false_eq_true, Bool.not_true, Bool.not_false, and_self, Nat.le_refl, fl29_3, ti27, el27, ti29, Hp_len, Hp_at, Hp_at0, Hp_seta, Hp_seta0, Hp_get hb, Hp_set hb, Tm.fw, Val.fw, endE_fw, Int.reduceToNat, Int.reduceLE, true_and, List.getElem?_map, kid_get hk0, Option.map_some] <;> rfl) ?_
  refine aops_call rfl rfl rfl en42 ((hTk.at hb _ (kid t 0) hgk (by omega) (by omega) he1 hc).mono fun p H' hp => ?_)
  obtain ⟨rfl, rfl⟩ := hp
  generalize ha : run k (kid t 0) env c g = a at ia ia' iap ial ⊢
  rw [hst0 a ha]
  refine aops_run 2 (by simp only [fw0, fw1, fw2, fw3, fw4, fw5, fw6, fw7, ↓reduceIte, Nat.reduceAdd, Nat.reduceMul, Nat.reduceEqDiff, Nat.reduceLT, Nat.reduceLeDiff, reduceCtorEq, Bool.false_eq_true, Bool.not_true, Bool.not_false, and_self, Nat.le_refl, ti108, Hp_len, Hp_at, Hp_at0, Hp_seta, Hp_seta0, Hp_get hb, Hp_set hb, Tm.fw, Val.fw, endE_fw] <;> rfl) ?_
  refine awp_seq ?_
  refine awp_seq ?_
  -- region 24
  refine awp_run rfl (by simp only [fw0, fw1, fw2, fw3, fw4, fw5, fw6, fw7, ↓reduceIte, Nat.reduceAdd, Nat.reduceMul, Nat.reduceEqDiff, Nat.reduceLT, Nat.reduceLeDiff, reduceCtorEq, Bool.false_eq_true, Bool.not_true, Bool.not_false, and_self, Nat.le_refl, fl108_0, ti3, Hp_len, Hp_at, Hp_at0, Hp_seta, Hp_seta0, Hp_get hb, Hp_set hb, Tm.fw, Val.fw, endE_fw] <;> rfl) ?_
  refine awp_cond (by simp only [fw0, fw1, fw2, fw3, fw4, fw5, fw6, fw7, ↓reduceIte, Nat.reduceAdd, Nat.reduceMul, Nat.reduceEqDiff, Nat.reduceLT, Nat.reduceLeDiff, reduceCtorEq, Bool.false_eq_true, Bool.not_true, Bool.not_false, and_self, Nat.le_refl] <;> rfl) ?_
  by_cases hst : a.st = 1
  rotate_left
  · simp only [hst, decide_false, Bool.not_false, ↓reduceIte]
    refine awp_seq ?_
    -- region 25
    refine awp_run rfl (by simp only [fw0, fw1, fw2, fw3, fw4, fw5, fw6, fw7, ↓reduceIte, Nat.reduceAdd, Nat.reduceMul, Nat.reduceEqDiff, Nat.reduceLT, Nat.reduceLeDiff, reduceCtorEq, Bool.false_eq_true, Bool.not_true, Bool.not_false, and_self, Nat.le_refl, ti108, Hp_len, Hp_at, Hp_at0, Hp_seta, Hp_seta0, Hp_get hb, Hp_set hb, Tm.fw, Val.fw, endE_fw] <;> rfl) ?_
    refine awp_ret ?_
    exact ret_Hp hb (.inl rfl) hbd _ (by simp [ares, aresL, ares1, rd, ev, alook, aput, Tryd.f42, ti108, endE_fw, Hp_at]) (by simp [PV.bd, endE_fw]) (ends_run rfl)
  have hlt := ia'.resolve_left (by omega)
  simp only [hst, decide_true, Bool.not_true, Bool.false_eq_true, ↓reduceIte]
  refine awp_skip ?_
  refine awp_seq ?_
  -- region 26
  refine awp_region rfl ?_
  refine aops_run 5 (by simp only [fw0, fw1, fw2, fw3, fw4, fw5, fw6, fw7, ↓reduceIte, Nat.reduceAdd, Nat.reduceMul, Nat.reduceEqDiff, Nat.reduceLT, Nat.reduceLeDiff, reduceCtorEq, Bool.false_eq_true, Bool.not_true, Bool.not_false, and_self, Nat.le_refl, ti29, ti44, fl108_1, Hp_len, Hp_at, Hp_at0, Hp_seta, Hp_seta0, Hp_get hb, Hp_set hb, Tm.fw, Val.fw, endE_fw] <;> rfl) ?_
  have hcall := c65 Γ hTk (run_inv B k) hB (H ++ [Blk.box t.enc, Blk.box (endZ 0), Blk.box (endE 1 a.v)]) b t env a.v a.c a.f (by rw [List.length_append]; omega) (by omega) iap (by omega) (EL_mono (by omega) he2) ia.v (by rw [ia.c]; exact hc) (fun h8 h10 => hk1' k3 h8 h10) hk2'
  rw [Hp_app hb] at hcall
  refine aops_call rfl rfl rfl en65 (hcall.mono fun p H' hp => ?_)
  obtain ⟨rfl, rfl⟩ := hp
  rw [Hp_app hb]
  refine aops_run 1 (by simp only [fw0, fw1, fw2, fw3, fw4, fw5, fw6, fw7, ↓reduceIte, Nat.reduceAdd, Nat.reduceMul, Nat.reduceEqDiff, Nat.reduceLT, Nat.reduceLeDiff, reduceCtorEq, Bool.false_eq_true, Bool.not_true, Bool.not_false, and_self, Nat.le_refl, ti108, Hp_len, Hp_at, Hp_at0, Hp_seta, Hp_seta0, Hp_get hb, Hp_set hb, Tm.fw, Val.fw, endE_fw] <;> rfl) ?_
  refine awp_ret ?_
  exact ret_Hp hb (.inl rfl) hbd _ (by simp [ares, aresL, ares1, rd, ev, alook, aput, Tryd.f42, ti108, endE_fw, Hp_at, endZ, zeroVP]) (by simp [PV.bd, endE_fw]) (ends_run rfl)

/-- run.term -/
theorem c42 (Γ : Nat → PV) (hΓ : TabK Γ) {B : Nat} (hB : B * 128 ≤ reachBytes) (n : Nat) : TermC Γ B n (run n) := by
  induction n using Nat.strongRecOn with
  | _ n ih => exact c42s Γ hΓ hB n ih

end Go.Proofs.YtnjlfbefpoecpaaDoor

/- The contract of a run from a term, names, cells, fuel. -/
namespace Go.Proofs.YtnjlfbefpoecpaaDoor
set_option linter.unusedVariables false
set_option linter.unusedSimpArgs false
set_option maxRecDepth 100000
open Go.RowKit Fw

/-- A result, in cells. -/
def resE (r : Res) : List PV := .int .i64 r.st :: (r.v.enc ++ [.vec (r.c.map Sl.enc) false, .int .i64 r.f])
theorem enc_drop (v : Val) (l : List PV) (k : Nat) : (v.enc ++ l).drop (k + 8) = l.drop k := by
  rw [List.drop_append, Val.enc_len, List.drop_of_length_le (by rw [Val.enc_len]; omega)]; simp
theorem enc_take (v : Val) (l : List PV) (k : Nat) : (v.enc ++ l).take (k + 8) = v.enc ++ l.take k := by
  rw [List.take_append, Val.enc_len, List.take_of_length_le (by rw [Val.enc_len]; omega)]; simp
theorem resE_len (r : Res) : (resE r).length = 11 := by simp [resE, Val.fw]
theorem resE_fw : (∀ r, (resE r).length = 11) ∧ (∀ r, (resE r)[0]? = some (.int .i64 r.st)) ∧ (∀ r, (resE r).take 11 = resE r) ∧ (∀ m r, PV.bdL m (resE r) = true) ∧ (∀ r, (resE r).drop 1 = r.v.enc ++ [.vec (r.c.map Sl.enc) false, .int .i64 r.f]) ∧
    (∀ r, (resE r).drop 9 = [.vec (r.c.map Sl.enc) false, .int .i64 r.f]) ∧ (∀ r, (resE r).drop 10 = [.int .i64 r.f]) := by
  refine ⟨resE_len, fun r => rfl, fun r => List.take_of_length_le (by rw [resE_len]; exact Nat.le_refl _), fun m r => by simp [resE, PV.bdL, PV.bd, PV.bdL_append, Val.fw], fun r => rfl, fun r => enc_drop r.v _ 0, fun r => enc_drop r.v _ 1⟩

/-- As much fuel as may be. -/
def capF (f : Int) : Int := if 100000 < f then 100000 else f
theorem capF_le (f : Int) : capF f ≤ 100000 := by unfold capF; split <;> omega

/-- The greatest length of names' lists that a run is asked of. -/
def big : Nat := 1073741824

/-- eval.Eval -/
theorem c22 (Γ : Nat → PV) (hΓ : TabK Γ) (t : Tm) (env : List Bd) (c : List Sl) (f : Int) (hf : -9223372036854775808 ≤ f) (he : EL 1000000000 env) (hc : c.length * 24 ≤ reachBytes) :
    Gives Tryd.prog Γ 22 [.agg t.enc, .vec (env.map Bd.enc) false, .vec (c.map Sl.enc) false, .int .i64 f] (.agg (resE (run 100000 t env c (capF f)))) := by
  have hcl := capF_le f
  have hcg : -9223372036854775808 ≤ capF f := by unfold capF; split <;> omega
  refine fn_of_awp Tryd.func22 rfl (by simp [Tryd.f22]) (by simp [PV.plain, PV.bd, resE_fw]) fun H => ?_
  refine awp_seq ?_
  -- region 0
  refine awp_run rfl (by simp only [fw0, fw1, fw2, fw3, fw4, fw5, fw6, fw7, ↓reduceIte, Nat.reduceAdd, Nat.reduceMul, Nat.reduceEqDiff, Nat.reduceLT, Nat.reduceLeDiff, reduceCtorEq, Bool.false_eq_true, Bool.not_true, Bool.not_false, and_self, Nat.le_refl, ti47] <;> rfl) ?_
  refine awp_seq ?_
  -- region 1
  refine awp_region rfl ?_
  refine aops_run 2 (by simp only [fw0, fw1, fw2, fw3, fw4, fw5, fw6, fw7, ↓reduceIte, Nat.reduceAdd, Nat.reduceMul, Nat.reduceEqDiff, Nat.reduceLT, Nat.reduceLeDiff, reduceCtorEq, Bool.false_eq_true, Bool.not_true, Bool.not_false, and_self, Nat.le_refl] <;> rfl) ?_
  refine aops_one rfl (os_min rfl rfl rfl ?_)
  have hcap : (if (100000 : Int) < f then (100000 : Int) else f) = capF f := rfl
  rw [hcap]
  refine aops_run 3 (by simp only [fw0, fw1, fw2, fw3, fw4, fw5, fw6, fw7, ↓reduceIte, Nat.reduceAdd, Nat.reduceMul, Nat.reduceEqDiff, Nat.reduceLT, Nat.reduceLeDiff, reduceCtorEq, Bool.false_eq_true, Bool.not_true, Bool.not_false, and_self, Nat.le_refl, ti106, pl106] <;> rfl) ?_
  refine awp_seq ?_
  -- region 2
  refine awp_region rfl ?_
  refine aops_run 3 (by simp only [fw0, fw1, fw2, fw3, fw4, fw5, fw6, fw7, ↓reduceIte, Nat.reduceAdd, Nat.reduceMul, Nat.reduceEqDiff, Nat.reduceLT, Nat.reduceLeDiff, reduceCtorEq, Bool.false_eq_true, Bool.not_true, Bool.not_false, and_self, Nat.le_refl, ti29, Tm.fw] <;> rfl) ?_
  have hself : ∀ (X : List PV) (c : List Sl) (g : Int), Hp (H ++ [Blk.box t.enc, .box X, .box [.vec (c.map Sl.enc) false, .int .i64 g]]) (H.length + 2) c g = H ++ [Blk.box t.enc, .box X, .box [.vec (c.map Sl.enc) false, .int .i64 g]] := fun X c g => Hp_self (by rw [Fw.get_at]; rfl)
  have hgo : ∀ (X : List PV) (c c' : List Sl) (g g' : Int), Hp (H ++ [Blk.box t.enc, .box X, .box [.vec (c.map Sl.enc) false, .int .i64 g]]) (H.length + 2) c' g' = H ++ [Blk.box t.enc, .box X, .box [.vec (c'.map Sl.enc) false, .int .i64 g']] := fun X c c' g g' => by
    unfold Hp
    rw [Fw.set_at]; rfl
  have hcall := c42 Γ hΓ (B := big) (by decide) 100000 (H ++ [Blk.box t.enc, .box ([.int .i64 0] ++ zeroVP ++ [.vec [] true, .int .i64 0]), .box [.vec (c.map Sl.enc) false, .int .i64 (capF f)]]) (H.length + 2) t env c (capF f) (by simp) hcl hcg (by unfold big; omega) (EL_mono (by unfold big; omega) he) hc
  rw [hself] at hcall
  refine aops_call rfl rfl rfl en42 (hcall.mono fun p H' hp => ?_)
  obtain ⟨rfl, rfl⟩ := hp
  rw [hgo]
  generalize run 100000 t env c (capF f) = r
  refine aops_run 2 (by simp only [fw0, fw1, fw2, fw3, fw4, fw5, fw6, fw7, ↓reduceIte, Nat.reduceAdd, Nat.reduceMul, Nat.reduceEqDiff, Nat.reduceLT, Nat.reduceLeDiff, reduceCtorEq, Bool.false_eq_true, Bool.not_true, Bool.not_false, and_self, Nat.le_refl, ti108, endE_fw] <;> rfl) ?_
  refine awp_seq ?_
  -- region 3 drawn
  refine awp_drawn [0, 1, 0, 1, 0, 0, 0, 1, 0, 0, 0, 1, 0, 2] [0, 1, 0, 4, 0, 16, 48, 112, 0, 256, 768, 1792, 4095, 8191] mixed rfl (by kernel_rfl) ?_
  refine dops_run 14 (by simp only [fw0, fw1, fw2, fw3, fw4, fw5, fw6, fw7, ↓reduceIte, Nat.reduceAdd, Nat.reduceMul, Nat.reduceEqDiff, Nat.reduceLT, Nat.reduceLeDiff, reduceCtorEq, Bool.false_eq_true, Bool.not_true, Bool.not_false, and_self, Nat.le_refl, fl108_0, ti3, fl108_1, ti44, fl106_0, ti45, fl106_1, ti47, pl47, endE_fw, Val.fw, enc_drop, enc_take, zeroVP, List.append_assoc, List.cons_append, List.nil_append, List.drop_zero, List.take_zero, List.drop_succ_cons, List.take_succ_cons, List.length_append, List.length_cons, List.length_nil] <;> rfl) ?_
  refine dops_end ?_
  refine awp_heap (H' := H ++ [.box t.enc, .box (resE r), .box [.vec (r.c.map Sl.enc) false, .int .i64 r.f], .box (endE r.st r.v)]) rfl ?_
  refine awp_ret ?_
  refine gives_end (.inl rfl) _ ?_
  simp [ares, aresL, ares1, rd, ev, alook, Tryd.f22, ti47, resE_fw]

end Go.Proofs.YtnjlfbefpoecpaaDoor

/- The contract of a run of a program. -/
namespace Go.Proofs.YtnjlfbefpoecpaaDoor
set_option linter.unusedVariables false
set_option linter.unusedSimpArgs false
set_option maxRecDepth 100000
open Go.RowKit Fw

/-- What a program declares: an input, a cell. -/
structure Dl where
  name : List UInt8
  label : List UInt8
  n : Int
/-- A definition. -/
structure Df where
  name : List UInt8
  t : Tm
/-- A program. -/
structure Pg where
  ins : List Dl
  cells : List Dl
  defs : List Df
  body : Tm

def Dl.enc (d : Dl) : List PV := [.str d.name, .str d.label, .int .i64 d.n]
def Df.enc (d : Df) : List PV := .str d.name :: d.t.enc
def Pg.enc (p : Pg) : List PV := .vec (p.ins.map Dl.enc) false :: .vec (p.cells.map Dl.enc) false :: .vec (p.defs.map Df.enc) false :: p.body.enc

theorem Dl.fw : (∀ d : Dl, d.enc.length = 3) ∧ (∀ d : Dl, d.enc[0]? = some (.str d.name)) ∧ (∀ d : Dl, d.enc.drop 1 = [.str d.label, .int .i64 d.n]) ∧ (∀ d : Dl, d.enc.drop 2 = [.int .i64 d.n]) ∧ (∀ d : Dl, d.enc.take 3 = d.enc) ∧ (∀ (m : Nat) (d : Dl), PV.bdL m d.enc = true) :=
  ⟨fun _ => rfl, fun _ => rfl, fun _ => rfl, fun _ => rfl, fun _ => rfl, fun _ _ => rfl⟩
theorem Df.fw : (∀ d : Df, d.enc.length = 5) ∧ (∀ d : Df, d.enc[0]? = some (.str d.name)) ∧ (∀ (d : Df) (k : Nat), d.enc.drop (k + 1) = d.t.enc.drop k) ∧ (∀ d : Df, d.enc.take 5 = d.enc) ∧ (∀ (m : Nat) (d : Df), PV.bdL m d.enc = true) := by
  have h5 : ∀ d : Df, d.enc.length = 5 := fun d => by simp [Df.enc, Tm.fw]
  exact ⟨h5, fun _ => rfl, fun _ _ => rfl, fun d => List.take_of_length_le (by rw [h5]; exact Nat.le_refl _), fun m d => by simp [Df.enc, PV.bdL, PV.bd, Tm.fw]⟩
theorem Pg.fw : (∀ p : Pg, p.enc.length = 7) ∧ (∀ p : Pg, p.enc[0]? = some (.vec (p.ins.map Dl.enc) false)) ∧ (∀ p : Pg, p.enc.drop 1 = .vec (p.cells.map Dl.enc) false :: .vec (p.defs.map Df.enc) false :: p.body.enc) ∧ (∀ p : Pg, p.enc.drop 2 = .vec (p.defs.map Df.enc) false :: p.body.enc) ∧
    (∀ p : Pg, p.enc.drop 3 = p.body.enc) ∧ (∀ p : Pg, p.enc.take 7 = p.enc) ∧ (∀ (m : Nat) (p : Pg), PV.bdL m p.enc = true) := by
  have h7 : ∀ p : Pg, p.enc.length = 7 := fun p => by simp [Pg.enc, Tm.fw]
  exact ⟨h7, fun _ => rfl, fun _ => rfl, fun _ => rfl, fun _ => rfl, fun p => List.take_of_length_le (by rw [h7]; exact Nat.le_refl _), fun m p => by simp [Pg.enc, PV.bdL, PV.bd, Tm.fw]⟩

/-- A cell, as a value. -/
def cellV (nm : List UInt8) : Val := .mk 2 0 nm (.mk 0 [] 0 []) []
/-- The names of the inputs, and what they stand for. -/
def inB (ins : List Int) (d : Dl × Nat) : Bd := .mk d.1.name (wholeV (ins.getD d.2 0))
def cellB (d : Dl) : Bd := .mk d.name (cellV d.name)
def slot (d : Dl) : Sl := ⟨d.name, d.n⟩
/-- The names of the definitions, one behind another; nothing: one is none. -/
def defsEnv : List Df → List Bd → Option (List Bd)
  | [], env => some env
  | d :: ds, env => if d.t.kind ≠ 3 ∨ d.t.kids.length ≠ 1 then none else defsEnv ds (env ++ [.mk d.name (funV d.t.name (kid d.t 0) env)])
def env0 (p : Pg) (ins : List Int) : List Bd := p.ins.zipIdx.map (inB ins) ++ p.cells.map cellB
/-- A run of a program. -/
def runP (p : Pg) (ins : List Int) (f : Int) : Res :=
  match defsEnv p.defs (env0 p ins) with
  | none => ⟨3, zeroV, p.cells.map slot, capF f⟩
  | some env => run 100000 p.body env (p.cells.map slot) (capF f)

theorem cellV_EB (k : Nat) (nm : List UInt8) : Val.EB k (cellV nm) := .mk _ (Nat.zero_le _) (fun b h => by cases h)
theorem env0_EL (p : Pg) (ins : List Int) : EL (p.ins.length + p.cells.length) (env0 p ins) := by
  refine ⟨by simp [env0], fun b hb => ?_⟩
  rcases List.mem_append.1 hb with h | h
  · obtain ⟨x, _, rfl⟩ := List.mem_map.1 h
    exact wholeV_EB _ _
  · obtain ⟨x, _, rfl⟩ := List.mem_map.1 h
    exact cellV_EB _ _

theorem zip_take {l : List Dl} {i : Nat} (h : i < l.length) (ins : List Int) : (l.zipIdx.take (i + 1)).map (inB ins) = (l.zipIdx.take i).map (inB ins) ++ [.mk l[i].name (wholeV (ins.getD i 0))] := by
  rw [List.take_add_one, List.getElem?_eq_getElem (by simpa using h)]
  simp [inB]
theorem map_take {X Y : Type} {l : List X} {i : Nat} (h : i < l.length) (g : X → Y) : (l.take (i + 1)).map g = (l.take i).map g ++ [g l[i]] := by
  rw [List.take_add_one, List.getElem?_eq_getElem h]
  simp only [Option.toList_some, List.map_append, List.map_cons, List.map_nil]

def resZ : List PV := [.int .i64 0, .int .i64 0, .int .i64 0, .str [], .int .i64 0, .str [], .int .i64 0, .vec [] true, .vec [] true, .vec [] true, .int .i64 0]

theorem resZ_bd (m : Nat) : PV.bdL m resZ = true := rfl
theorem resZ_le (c : List Sl) (g : Int) : PV.leL (.int .i64 3 :: (zeroVP ++ [.vec (c.map Sl.enc) false, .int .i64 g])) (resE ⟨3, zeroV, c, g⟩) := by
  simp [zeroVP, resE, zeroV, Val.enc, Tm.enc, Tm.encs, Bd.encs, PV.le, PV.leL, PV.leLL, PV.leLL_refl]

/-- eval.Run -/
theorem c15 (Γ : Nat → PV) (hΓ : TabK Γ) (p : Pg) (ins : List Int) (f : Int) (hf : -9223372036854775808 ≤ f) (hp : p.ins.length + p.cells.length + p.defs.length ≤ 1000) :
    Gives Tryd.prog Γ 15 [.agg p.enc, .vec (ins.map fun n => [.int .i64 n]) false, .int .i64 f] (.agg (resE (runP p ins f))) := by
  refine fn_of_awp Tryd.func15 rfl (by simp [Tryd.f15]) (by simp [PV.plain, PV.bd, resE_fw]) fun H => ?_
  refine awp_bd fun hbdH => ?_
  refine awp_vlen 1 rfl fun hinl => ?_
  rw [List.length_map] at hinl
  refine awp_seq ?_
  -- region 0
  refine awp_run rfl (by simp only [fw0, fw1, fw2, fw3, fw4, fw5, fw6, fw7, ↓reduceIte, Nat.reduceAdd, Nat.reduceMul, Nat.reduceEqDiff, Nat.reduceLT, Nat.reduceLeDiff, reduceCtorEq, Bool.false_eq_true, Bool.not_true, Bool.not_false, and_self, Nat.le_refl, ti47] <;> rfl) ?_
  refine awp_seq ?_
  -- region 1
  refine awp_run rfl (by simp only [fw0, fw1, fw2, fw3, fw4, fw5, fw6, fw7, ↓reduceIte, Nat.reduceAdd, Nat.reduceMul, Nat.reduceEqDiff, Nat.reduceLT, Nat.reduceLeDiff, reduceCtorEq, Bool.false_eq_true, Bool.not_true, Bool.not_false, and_self, Nat.le_refl] <;> rfl) ?_
  refine awp_seq ?_
  -- region 2
  refine awp_run rfl (by simp only [fw0, fw1, fw2, fw3, fw4, fw5, fw6, fw7, ↓reduceIte, Nat.reduceAdd, Nat.reduceMul, Nat.reduceEqDiff, Nat.reduceLT, Nat.reduceLeDiff, reduceCtorEq, Bool.false_eq_true, Bool.not_true, Bool.not_false, and_self, Nat.le_refl] <;> rfl) ?_
  refine awp_told (told_adopt 8 2 (by decide) rfl) ?_
  refine awp_told (told_le 7 (.vec (([] : List Bd).map Bd.enc) false) ⟨nofun, trivial⟩) ?_
  refine awp_heap (H' := H ++ [.box p.enc, .box resZ, .row 2 []]) (by simp [resZ]) ?_
  refine awp_seq ?_
  refine awp_seq ?_
  -- region 3
  refine awp_run rfl (by simp only [fw0, fw1, fw2, fw3, fw4, fw5, fw6, fw7, ↓reduceIte, Nat.reduceAdd, Nat.reduceMul, Nat.reduceEqDiff, Nat.reduceLT, Nat.reduceLeDiff, reduceCtorEq, Bool.false_eq_true, Bool.not_true, Bool.not_false, and_self, Nat.le_refl, fl31_0, ti25, un25, Pg.fw, List.length_map] <;> rfl) ?_
  refine awp_bd fun hbd => ?_
  refine awp_block ?_
  refine awp_forG [1, 2, 3, 6, 7, 8, 17, 18, 19] (fun i : Nat => [.vec (ins.map fun n => [.int .i64 n]) false, .int .i64 f, .ptr H.length 0, .ptr (H.length + 1) 0, .vec (((p.ins.zipIdx.take i).map (inB ins)).map Bd.enc) false, .row (H.length + 2) 0 0 2, .vec (p.ins.map Dl.enc) false, .int .i64 p.ins.length, .int .i64 i])
    (fun _ => H ++ [.box p.enc, .box resZ, .row 2 []]) (fun i => p.ins.length - i) (fun i => i ≤ p.ins.length) 0 (by simp [alook, aput, ev, wrapN]) rfl (Nat.zero_le _) (fun i _ => ⟨hbd, by simp [PV.bdL, PV.bd]⟩) (fun i _ b hb => by cases hb) fun i hi => ?_
  refine awp_seq ?_
  -- region 4
  refine awp_run rfl (by simp only [fw0, fw1, fw2, fw3, fw4, fw5, fw6, fw7, ↓reduceIte, Nat.reduceAdd, Nat.reduceMul, Nat.reduceEqDiff, Nat.reduceLT, Nat.reduceLeDiff, reduceCtorEq, Bool.false_eq_true, Bool.not_true, Bool.not_false, and_self, Nat.le_refl] <;> rfl) ?_
  refine awp_seq ?_
  refine awp_cond (by simp only [fw0, fw1, fw2, fw3, fw4, fw5, fw6, fw7, ↓reduceIte, Nat.reduceAdd, Nat.reduceMul, Nat.reduceEqDiff, Nat.reduceLT, Nat.reduceLeDiff, reduceCtorEq, Bool.false_eq_true, Bool.not_true, Bool.not_false, and_self, Nat.le_refl] <;> rfl) ?_
  by_cases hc : (i : Int) < p.ins.length
  · simp only [hc, decide_true, ↓reduceIte]
    refine awp_skip ?_
    have hil : i < p.ins.length := by omega
    have gi : p.ins[i]? = some p.ins[i] := List.getElem?_eq_getElem hil
    have henv : ((p.ins.zipIdx.take i).map (inB ins)).length * 128 ≤ reachBytes := by
      rw [List.length_map, List.length_take, List.length_zipIdx]; unfold reachBytes; omega
    refine awp_seq ?_
    refine awp_block ?_
    refine awp_seq ?_
    -- region 5
    refine awp_run rfl (by simp only [fw0, fw1, fw2, fw3, fw4, fw5, fw6, fw7, ↓reduceIte, Nat.reduceAdd, Nat.reduceMul, Nat.reduceEqDiff, Nat.reduceLT, Nat.reduceLeDiff, reduceCtorEq, Bool.false_eq_true, Bool.not_true, Bool.not_false, and_self, Nat.le_refl, el25, ti51, Dl.fw, List.getElem?_map, gi, Option.map_some, Int.natCast_nonneg] <;> rfl) ?_
    refine awp_seq ?_
    -- region 6
    refine awp_region rfl ?_
    refine aops_fn rfl rfl rfl en35 (c35 Γ 0) ?_
    refine aops_run 2 (by simp only [fw0, fw1, fw2, fw3, fw4, fw5, fw6, fw7, ↓reduceIte, Nat.reduceAdd, Nat.reduceMul, Nat.reduceEqDiff, Nat.reduceLT, Nat.reduceLeDiff, reduceCtorEq, Bool.false_eq_true, Bool.not_true, Bool.not_false, and_self, Nat.le_refl, ti44, Val.fw] <;> rfl) ?_
    refine awp_seq ?_
    refine awp_seq ?_
    -- region 7
    refine awp_run rfl (by simp only [fw0, fw1, fw2, fw3, fw4, fw5, fw6, fw7, ↓reduceIte, Nat.reduceAdd, Nat.reduceMul, Nat.reduceEqDiff, Nat.reduceLT, Nat.reduceLeDiff, reduceCtorEq, Bool.false_eq_true, Bool.not_true, Bool.not_false, and_self, Nat.le_refl, un23, List.length_map] <;> rfl) ?_
    refine awp_cond (by simp only [fw0, fw1, fw2, fw3, fw4, fw5, fw6, fw7, ↓reduceIte, Nat.reduceAdd, Nat.reduceMul, Nat.reduceEqDiff, Nat.reduceLT, Nat.reduceLeDiff, reduceCtorEq, Bool.false_eq_true, Bool.not_true, Bool.not_false, and_self, Nat.le_refl] <;> rfl) ?_
    by_cases hin : (i : Int) < ins.length
    · simp only [hin, decide_true, ↓reduceIte]
      have hin' : i < ins.length := by omega
      have gn : ins[i]? = some ins[i] := List.getElem?_eq_getElem hin'
      have gd : ins.getD i 0 = ins[i] := by rw [List.getD_eq_getElem?_getD, gn]; rfl
      -- region 8
      refine awp_region rfl ?_
      refine aops_run 4 (by simp only [fw0, fw1, fw2, fw3, fw4, fw5, fw6, fw7, ↓reduceIte, Nat.reduceAdd, Nat.reduceMul, Nat.reduceEqDiff, Nat.reduceLT, Nat.reduceLeDiff, reduceCtorEq, Bool.false_eq_true, Bool.not_true, Bool.not_false, and_self, Nat.le_refl, el23, ti2, List.getElem?_map, gn, Option.map_some, Int.natCast_nonneg] <;> rfl) ?_
      refine aops_fn rfl rfl rfl en35 (c35 Γ ins[i]) ?_
      refine aops_run 1 (by simp only [fw0, fw1, fw2, fw3, fw4, fw5, fw6, fw7, ↓reduceIte, Nat.reduceAdd, Nat.reduceMul, Nat.reduceEqDiff, Nat.reduceLT, Nat.reduceLeDiff, reduceCtorEq, Bool.false_eq_true, Bool.not_true, Bool.not_false, and_self, Nat.le_refl, ti44, Val.fw] <;> rfl) ?_
      -- region 9
      refine awp_region rfl ?_
      refine aops_run 4 (by simp only [fw0, fw1, fw2, fw3, fw4, fw5, fw6, fw7, ↓reduceIte, Nat.reduceAdd, Nat.reduceMul, Nat.reduceEqDiff, Nat.reduceLT, Nat.reduceLeDiff, reduceCtorEq, Bool.false_eq_true, Bool.not_true, Bool.not_false, and_self, Nat.le_refl, fl51_0, ti9, ti44, Dl.fw, Val.fw] <;> rfl) ?_
      refine aops_fn rfl rfl rfl en36 (c36 Γ _ p.ins[i].name (wholeV ins[i]) henv) ?_
      refine aops_run 1 (by simp only [fw0, fw1, fw2, fw3, fw4, fw5, fw6, fw7, ↓reduceIte, Nat.reduceAdd, Nat.reduceMul, Nat.reduceEqDiff, Nat.reduceLT, Nat.reduceLeDiff, reduceCtorEq, Bool.false_eq_true, Bool.not_true, Bool.not_false, and_self, Nat.le_refl] <;> rfl) ?_
      -- region 10
      refine awp_run rfl (by simp only [fw0, fw1, fw2, fw3, fw4, fw5, fw6, fw7, ↓reduceIte, Nat.reduceAdd, Nat.reduceMul, Nat.reduceEqDiff, Nat.reduceLT, Nat.reduceLeDiff, reduceCtorEq, Bool.false_eq_true, Bool.not_true, Bool.not_false, and_self, Nat.le_refl, wrapS i (by omega)] <;> rfl) ?_
      refine ⟨i + 1, _, by omega, by omega, by rw [zip_take hil, gd]; rfl, (List.append_assoc H [.box p.enc, .box resZ, .row 2 []] _).symm, rfl, Nat.le_refl _⟩
    · simp only [hin, decide_false, Bool.false_eq_true, ↓reduceIte]
      have gd : ins.getD i 0 = 0 := by rw [List.getD_eq_getElem?_getD, List.getElem?_eq_none (by omega)]; rfl
      refine awp_skip ?_
      -- region 9
      refine awp_region rfl ?_
      refine aops_run 4 (by simp only [fw0, fw1, fw2, fw3, fw4, fw5, fw6, fw7, ↓reduceIte, Nat.reduceAdd, Nat.reduceMul, Nat.reduceEqDiff, Nat.reduceLT, Nat.reduceLeDiff, reduceCtorEq, Bool.false_eq_true, Bool.not_true, Bool.not_false, and_self, Nat.le_refl, fl51_0, ti9, ti44, Dl.fw, Val.fw] <;> rfl) ?_
      refine aops_fn rfl rfl rfl en36 (c36 Γ _ p.ins[i].name (wholeV 0) henv) ?_
      refine aops_run 1 (by simp only [fw0, fw1, fw2, fw3, fw4, fw5, fw6, fw7, ↓reduceIte, Nat.reduceAdd, Nat.reduceMul, Nat.reduceEqDiff, Nat.reduceLT, Nat.reduceLeDiff, reduceCtorEq, Bool.false_eq_true, Bool.not_true, Bool.not_false, and_self, Nat.le_refl] <;> rfl) ?_
      -- region 10
      refine awp_run rfl (by simp only [fw0, fw1, fw2, fw3, fw4, fw5, fw6, fw7, ↓reduceIte, Nat.reduceAdd, Nat.reduceMul, Nat.reduceEqDiff, Nat.reduceLT, Nat.reduceLeDiff, reduceCtorEq, Bool.false_eq_true, Bool.not_true, Bool.not_false, and_self, Nat.le_refl, wrapS i (by omega)] <;> rfl) ?_
      refine ⟨i + 1, _, by omega, by omega, by rw [zip_take hil, gd]; rfl, (List.append_assoc H [.box p.enc, .box resZ, .row 2 []] _).symm, rfl, Nat.le_refl _⟩
  simp only [hc, decide_false, Bool.false_eq_true, ↓reduceIte]
  refine awp_exit ?_
  have hie : i = p.ins.length := by omega
  subst hie
  have htl : p.ins.zipIdx.take p.ins.length = p.ins.zipIdx := List.take_of_length_le (by simp)
  rw [htl]
  simp only [Post.block, Post.then, ↓reduceIte]
  refine awp_seq ?_
  refine awp_seq ?_
  -- region 11
  refine awp_run rfl (by simp only [fw0, fw1, fw2, fw3, fw4, fw5, fw6, fw7, ↓reduceIte, Nat.reduceAdd, Nat.reduceMul, Nat.reduceEqDiff, Nat.reduceLT, Nat.reduceLeDiff, reduceCtorEq, Bool.false_eq_true, Bool.not_true, Bool.not_false, and_self, Nat.le_refl, fl31_1, ti25, un25, Pg.fw, List.length_map] <;> rfl) ?_
  refine awp_block ?_
  refine awp_forG [2, 3, 6, 7, 8, 41, 42, 43] (fun j : Nat => [.int .i64 f, .ptr H.length 0, .ptr (H.length + 1) 0, .vec ((p.ins.zipIdx.map (inB ins) ++ (p.cells.take j).map cellB).map Bd.enc) false, .row (H.length + 2) 0 j 2, .vec (p.cells.map Dl.enc) false, .int .i64 p.cells.length, .int .i64 j])
    (fun j => H ++ [.box p.enc, .box resZ, .row 2 (((p.cells.take j).map slot).map Sl.enc).flatten]) (fun j => p.cells.length - j) (fun j => j ≤ p.cells.length) 0 (by simp [alook, aput, ev]) rfl (Nat.zero_le _) (fun j _ => ⟨bd_app hbdH (by simp only [List.all_cons, List.all_nil, Blk.bd, Pg.fw, resZ_bd, Bool.and_true, Bool.true_and]; exact flat_bd (fun s => by simp only [Sl.fw]) _), by simp [PV.bdL, PV.bd]⟩) (fun j _ b hb => by cases hb) fun j hj => ?_
  have hcl : ((p.cells.take j).map slot).length = j := by simp; omega
  refine awp_seq ?_
  -- region 12
  refine awp_run rfl (by simp only [fw0, fw1, fw2, fw3, fw4, fw5, fw6, fw7, ↓reduceIte, Nat.reduceAdd, Nat.reduceMul, Nat.reduceEqDiff, Nat.reduceLT, Nat.reduceLeDiff, reduceCtorEq, Bool.false_eq_true, Bool.not_true, Bool.not_false, and_self, Nat.le_refl] <;> rfl) ?_
  refine awp_seq ?_
  refine awp_cond (by simp only [fw0, fw1, fw2, fw3, fw4, fw5, fw6, fw7, ↓reduceIte, Nat.reduceAdd, Nat.reduceMul, Nat.reduceEqDiff, Nat.reduceLT, Nat.reduceLeDiff, reduceCtorEq, Bool.false_eq_true, Bool.not_true, Bool.not_false, and_self, Nat.le_refl] <;> rfl) ?_
  by_cases hcj : (j : Int) < p.cells.length
  · simp only [hcj, decide_true, ↓reduceIte]
    refine awp_skip ?_
    have hjl : j < p.cells.length := by omega
    have gj : p.cells[j]? = some p.cells[j] := List.getElem?_eq_getElem hjl
    refine awp_seq ?_
    refine awp_block ?_
    refine awp_seq ?_
    -- region 13
    refine awp_run rfl (by simp only [fw0, fw1, fw2, fw3, fw4, fw5, fw6, fw7, ↓reduceIte, Nat.reduceAdd, Nat.reduceMul, Nat.reduceEqDiff, Nat.reduceLT, Nat.reduceLeDiff, reduceCtorEq, Bool.false_eq_true, Bool.not_true, Bool.not_false, and_self, Nat.le_refl, el25, ti51, Dl.fw, List.getElem?_map, gj, Option.map_some, Int.natCast_nonneg] <;> rfl) ?_
    refine awp_seq ?_
    -- region 14
    refine awp_region rfl ?_
    refine aops_run 7 (by simp only [fw0, fw1, fw2, fw3, fw4, fw5, fw6, fw7, ↓reduceIte, Nat.reduceAdd, Nat.reduceMul, Nat.reduceEqDiff, Nat.reduceLT, Nat.reduceLeDiff, reduceCtorEq, Bool.false_eq_true, Bool.not_true, Bool.not_false, and_self, Nat.le_refl, fl51_0, ti9, fl51_2, ti2, ti53, pl53, un45, Dl.fw] <;> rfl) ?_
    refine aops_one rfl (os_appendR rfl un45 ti53 un45 (.inl ⟨_, rfl⟩) rfl (by simp only [fw0, fw1, fw2, fw3, fw4, fw5, fw6, fw7, ↓reduceIte, Nat.reduceAdd, Nat.reduceMul, Nat.reduceEqDiff, Nat.reduceLT, Nat.reduceLeDiff, reduceCtorEq, Bool.false_eq_true, Bool.not_true, Bool.not_false, and_self, Nat.le_refl] <;> rfl) (by rw [flat_len Sl.enc_len, hcl]; exact (Nat.zero_add _).symm) rfl (fun es f h e he => by
      simp only [fw0, fw1, fw2, fw3, fw4, fw5, fw6, fw7, ↓reduceIte, Nat.reduceAdd, Nat.reduceMul, Nat.reduceEqDiff, Nat.reduceLT, Nat.reduceLeDiff, reduceCtorEq, Bool.false_eq_true, Bool.not_true, Bool.not_false, and_self, Nat.le_refl, PV.vec.injEq] at h
      obtain ⟨rfl, rfl⟩ := h
      simp only [List.mem_singleton] at he
      subst he; rfl) rfl (by show (j + 1) * 24 ≤ _; omega) (by show j + 1 ≤ _; omega) ?_)
    refine aops_run 1 (by simp only [fw0, fw1, fw2, fw3, fw4, fw5, fw6, fw7, ↓reduceIte, Nat.reduceAdd, Nat.reduceMul, Nat.reduceEqDiff, Nat.reduceLT, Nat.reduceLeDiff, reduceCtorEq, Bool.false_eq_true, Bool.not_true, Bool.not_false, and_self, Nat.le_refl] <;> rfl) ?_
    -- region 15
    refine awp_region rfl ?_
    refine aops_run 6 (by simp only [fw0, fw1, fw2, fw3, fw4, fw5, fw6, fw7, ↓reduceIte, Nat.reduceAdd, Nat.reduceMul, Nat.reduceEqDiff, Nat.reduceLT, Nat.reduceLeDiff, reduceCtorEq, Bool.false_eq_true, Bool.not_true, Bool.not_false, and_self, Nat.le_refl, fl51_0, ti9, ti44, pl44, Dl.fw] <;> rfl) ?_
    refine aops_fnLe rfl rfl rfl en36 (c36 Γ (p.ins.zipIdx.map (inB ins) ++ (p.cells.take j).map cellB) p.cells[j].name (cellV p.cells[j].name) (by simp; unfold reachBytes; omega)) ?_ ?_
    · exact ⟨PV.le_refl _, rfl, by show PV.leL [.int .i64 2, .int .i64 0, .str p.cells[j].name, .int .i64 0, .str [], .int .i64 0, .vec [] true, .vec [] true] (cellV p.cells[j].name).enc; simp [cellV, Val.enc, Tm.enc, Tm.encs, Bd.encs, PV.le, PV.leL, PV.leLL], trivial⟩
    refine aops_run 1 (by simp only [fw0, fw1, fw2, fw3, fw4, fw5, fw6, fw7, ↓reduceIte, Nat.reduceAdd, Nat.reduceMul, Nat.reduceEqDiff, Nat.reduceLT, Nat.reduceLeDiff, reduceCtorEq, Bool.false_eq_true, Bool.not_true, Bool.not_false, and_self, Nat.le_refl] <;> rfl) ?_
    -- region 16
    refine awp_run rfl (by simp only [fw0, fw1, fw2, fw3, fw4, fw5, fw6, fw7, ↓reduceIte, Nat.reduceAdd, Nat.reduceMul, Nat.reduceEqDiff, Nat.reduceLT, Nat.reduceLeDiff, reduceCtorEq, Bool.false_eq_true, Bool.not_true, Bool.not_false, and_self, Nat.le_refl, wrapS j (by omega)] <;> rfl) ?_
    refine ⟨j + 1, [.box p.cells[j].enc], by omega, by omega, by rw [map_take hjl cellB, ← List.append_assoc]; rfl, by rw [map_take hjl slot]; simp [slot, Sl.enc], rfl, by simp⟩
  simp only [hcj, decide_false, Bool.false_eq_true, ↓reduceIte]
  refine awp_exit ?_
  have hje : j = p.cells.length := by omega
  subst hje
  rw [List.take_length]
  simp only [Post.block, Post.then, ↓reduceIte]
  generalize hcells : p.cells.map slot = cells
  have hcn : cells.length = p.cells.length := by rw [← hcells]; simp
  have hl : ((cells.map Sl.enc).flatten).length = p.cells.length * 2 := by rw [flat_len Sl.enc_len, hcn]
  have hch : chunk 2 p.cells.length ((cells.map Sl.enc).flatten) = cells.map Sl.enc := by rw [← hcn]; exact flat_chunk Sl.enc_len cells
  refine awp_told (told_freezeR (H.length + 2) (sz := 2) (C := (cells.map Sl.enc).flatten) (H2 := H ++ [.box p.enc, .box resZ, .dead]) (by rw [Fw.get_at]; rfl) (flat_bd (fun s => by simp only [Sl.fw]) _) (by simp) (fun k B hB => ⟨B, by rw [Fw.set_at]; exact hB, .inl rfl⟩)) ?_
  refine awp_seq ?_
  refine awp_seq ?_
  -- region 17
  refine awp_run rfl (by simp only [fw0, fw1, fw2, fw3, fw4, fw5, fw6, fw7, ↓reduceIte, Nat.reduceAdd, Nat.reduceMul, Nat.reduceEqDiff, Nat.reduceLT, Nat.reduceLeDiff, reduceCtorEq, Bool.false_eq_true, Bool.not_true, Bool.not_false, and_self, Nat.le_refl, fl31_2, ti26, un26, Pg.fw, List.length_map, hl, hch] <;> rfl) ?_
  refine awp_block ?_
  have henv0 : p.ins.zipIdx.map (inB ins) ++ p.cells.map cellB = env0 p ins := rfl
  refine awp_forG [2, 3, 6, 7, 8, 64, 65, 66] (fun s : Nat × List Bd => [.int .i64 f, .ptr H.length 0, .ptr (H.length + 1) 0, .vec (s.2.map Bd.enc) false, .vec (cells.map Sl.enc) false, .vec (p.defs.map Df.enc) false, .int .i64 p.defs.length, .int .i64 s.1])
    (fun _ => H ++ [.box p.enc, .box resZ, .dead]) (fun s => p.defs.length - s.1) (fun s => s.1 ≤ p.defs.length ∧ EL (p.ins.length + p.cells.length + s.1) s.2 ∧ defsEnv p.defs (env0 p ins) = defsEnv (p.defs.drop s.1) s.2) (0, env0 p ins) (by simp [alook, aput, ev, frz, hl, hch, henv0]) rfl ⟨Nat.zero_le _, env0_EL p ins, rfl⟩
    (fun s _ => ⟨bd_app hbdH (by simp only [List.all_cons, List.all_nil, Blk.bd, Pg.fw, resZ_bd, Bool.and_true]), by simp [PV.bdL, PV.bd]⟩) (fun j _ b hb => by cases hb) fun s hs => ?_
  obtain ⟨k, env⟩ := s
  obtain ⟨hk, hE, hD⟩ := hs
  dsimp only at hk hE hD ⊢
  refine awp_seq ?_
  -- region 18
  refine awp_run rfl (by simp only [fw0, fw1, fw2, fw3, fw4, fw5, fw6, fw7, ↓reduceIte, Nat.reduceAdd, Nat.reduceMul, Nat.reduceEqDiff, Nat.reduceLT, Nat.reduceLeDiff, reduceCtorEq, Bool.false_eq_true, Bool.not_true, Bool.not_false, and_self, Nat.le_refl] <;> rfl) ?_
  refine awp_seq ?_
  refine awp_cond (by simp only [fw0, fw1, fw2, fw3, fw4, fw5, fw6, fw7, ↓reduceIte, Nat.reduceAdd, Nat.reduceMul, Nat.reduceEqDiff, Nat.reduceLT, Nat.reduceLeDiff, reduceCtorEq, Bool.false_eq_true, Bool.not_true, Bool.not_false, and_self, Nat.le_refl] <;> rfl) ?_
  by_cases hck : (k : Int) < p.defs.length
  rotate_left
  · simp only [hck, decide_false, Bool.false_eq_true, ↓reduceIte]
    refine awp_exit ?_
    have hke : k = p.defs.length := by omega
    rw [hke, List.drop_length] at hD
    have hrun : runP p ins f = run 100000 p.body env cells (capF f) := by
      unfold runP
      rw [hD, hcells]
      rfl
    rw [hrun]
    simp only [Post.block, Post.then, ↓reduceIte]
    refine awp_seq ?_
    -- region 24
    refine awp_region rfl ?_
    refine aops_run 5 (by simp only [fw0, fw1, fw2, fw3, fw4, fw5, fw6, fw7, ↓reduceIte, Nat.reduceAdd, Nat.reduceMul, Nat.reduceEqDiff, Nat.reduceLT, Nat.reduceLeDiff, reduceCtorEq, Bool.false_eq_true, Bool.not_true, Bool.not_false, and_self, Nat.le_refl, fl31_3, ti29, Pg.fw, Tm.fw] <;> rfl) ?_
    refine aops_fn rfl rfl rfl en22 (c22 Γ hΓ p.body env cells f hf (EL_mono (by omega) hE) (by rw [hcn]; unfold reachBytes; omega)) ?_
    refine aops_run 1 (by simp only [fw0, fw1, fw2, fw3, fw4, fw5, fw6, fw7, ↓reduceIte, Nat.reduceAdd, Nat.reduceMul, Nat.reduceEqDiff, Nat.reduceLT, Nat.reduceLeDiff, reduceCtorEq, Bool.false_eq_true, Bool.not_true, Bool.not_false, and_self, Nat.le_refl, ti47, resE_fw, resZ] <;> rfl) ?_
    refine awp_ret ?_
    refine gives_end (.inl rfl) _ ?_
    simp [ares, aresL, ares1, rd, ev, alook, aput, Tryd.f15, ti47, resE_fw]
  simp only [hck, decide_true, ↓reduceIte]
  refine awp_skip ?_
  have hkl : k < p.defs.length := by omega
  have gk : p.defs[k]? = some p.defs[k] := List.getElem?_eq_getElem hkl
  have hdk : p.defs.drop k = p.defs[k] :: p.defs.drop (k + 1) := List.drop_eq_getElem_cons hkl
  generalize hdd : p.defs[k] = dd at gk hdk
  refine awp_seq ?_
  refine awp_block ?_
  refine awp_seq ?_
  -- region 19
  refine awp_run rfl (by simp only [fw0, fw1, fw2, fw3, fw4, fw5, fw6, fw7, ↓reduceIte, Nat.reduceAdd, Nat.reduceMul, Nat.reduceEqDiff, Nat.reduceLT, Nat.reduceLeDiff, reduceCtorEq, Bool.false_eq_true, Bool.not_true, Bool.not_false, and_self, Nat.le_refl, el26, ti92, Df.fw, List.getElem?_map, gk, Option.map_some, Int.natCast_nonneg] <;> rfl) ?_
  have hbad : (dd.t.kind ≠ 3 ∨ dd.t.kids.length ≠ 1) → runP p ins f = ⟨3, zeroV, cells, capF f⟩ := fun h => by
    unfold runP
    rw [hD, hdk]
    simp only [defsEnv, if_pos h, hcells]
  refine awp_vlen 64 rfl fun _ => ?_
  refine awp_seq ?_
  refine awp_seq ?_
  -- region 20
  by_cases k3 : dd.t.kind = 3
  rotate_left
  · refine awp_run rfl (by simp only [fw0, fw1, fw2, fw3, fw4, fw5, fw6, fw7, ↓reduceIte, Nat.reduceAdd, Nat.reduceMul, Nat.reduceEqDiff, Nat.reduceLT, Nat.reduceLeDiff, reduceCtorEq, Bool.false_eq_true, Bool.not_true, Bool.not_false, and_self, Nat.le_refl, fl92_1, fl29_0, ti3, fl29_3, ti27, un27, Df.fw, Tm.fw, k3, decide_false] <;> rfl) ?_
    refine awp_cond (b := true) rfl ?_
    rw [hbad (.inl k3)]
    refine awp_seq ?_
    -- region 21
    refine awp_region rfl ?_
    refine aops_run 3 (by simp only [fw0, fw1, fw2, fw3, fw4, fw5, fw6, fw7, ↓reduceIte, Nat.reduceAdd, Nat.reduceMul, Nat.reduceEqDiff, Nat.reduceLT, Nat.reduceLeDiff, reduceCtorEq, Bool.false_eq_true, Bool.not_true, Bool.not_false, and_self, Nat.le_refl, ti44, pl44] <;> rfl) ?_
    refine aops_one rfl (os_min rfl rfl rfl ?_)
    rw [show (if (100000 : Int) < f then (100000 : Int) else f) = capF f from rfl]
    refine aops_run 2 (by simp only [fw0, fw1, fw2, fw3, fw4, fw5, fw6, fw7, ↓reduceIte, Nat.reduceAdd, Nat.reduceMul, Nat.reduceEqDiff, Nat.reduceLT, Nat.reduceLeDiff, reduceCtorEq, Bool.false_eq_true, Bool.not_true, Bool.not_false, and_self, Nat.le_refl, ti47, pl47, resZ] <;> rfl) ?_
    refine awp_told (told_leBox (H.length + 1) (cs := .int .i64 3 :: (zeroVP ++ [.vec (cells.map Sl.enc) false, .int .i64 (capF f)])) (by rw [Fw.get_at]; rfl) (resZ_le cells (capF f))) ?_
    refine awp_heap (H' := H ++ [.box p.enc, .box (resE ⟨3, zeroV, cells, capF f⟩), .dead, .box dd.enc]) (by rw [Fw.set_at]; rfl) ?_
    refine awp_ret ?_
    refine gives_end (.inl rfl) _ ?_
    simp [ares, aresL, ares1, rd, ev, alook, aput, Tryd.f15, ti47, resE_fw]
  by_cases kl : dd.t.kids.length = 1
  rotate_left
  · have kl' : ¬ ((dd.t.kids.length : Int) = 1) := by omega
    refine awp_run rfl (by simp only [fw0, fw1, fw2, fw3, fw4, fw5, fw6, fw7, ↓reduceIte, Nat.reduceAdd, Nat.reduceMul, Nat.reduceEqDiff, Nat.reduceLT, Nat.reduceLeDiff, reduceCtorEq, Bool.false_eq_true, Bool.not_true, Bool.not_false, and_self, Nat.le_refl, fl92_1, fl29_0, ti3, fl29_3, ti27, un27, Df.fw, Tm.fw, k3, decide_true, List.length_map, kl', decide_false] <;> rfl) ?_
    refine awp_cond (b := true) rfl ?_
    rw [hbad (.inr kl)]
    refine awp_seq ?_
    -- region 21
    refine awp_region rfl ?_
    refine aops_run 3 (by simp only [fw0, fw1, fw2, fw3, fw4, fw5, fw6, fw7, ↓reduceIte, Nat.reduceAdd, Nat.reduceMul, Nat.reduceEqDiff, Nat.reduceLT, Nat.reduceLeDiff, reduceCtorEq, Bool.false_eq_true, Bool.not_true, Bool.not_false, and_self, Nat.le_refl, ti44, pl44] <;> rfl) ?_
    refine aops_one rfl (os_min rfl rfl rfl ?_)
    rw [show (if (100000 : Int) < f then (100000 : Int) else f) = capF f from rfl]
    refine aops_run 2 (by simp only [fw0, fw1, fw2, fw3, fw4, fw5, fw6, fw7, ↓reduceIte, Nat.reduceAdd, Nat.reduceMul, Nat.reduceEqDiff, Nat.reduceLT, Nat.reduceLeDiff, reduceCtorEq, Bool.false_eq_true, Bool.not_true, Bool.not_false, and_self, Nat.le_refl, ti47, pl47, resZ] <;> rfl) ?_
    refine awp_told (told_leBox (H.length + 1) (cs := .int .i64 3 :: (zeroVP ++ [.vec (cells.map Sl.enc) false, .int .i64 (capF f)])) (by rw [Fw.get_at]; rfl) (resZ_le cells (capF f))) ?_
    refine awp_heap (H' := H ++ [.box p.enc, .box (resE ⟨3, zeroV, cells, capF f⟩), .dead, .box dd.enc]) (by rw [Fw.set_at]; rfl) ?_
    refine awp_ret ?_
    refine gives_end (.inl rfl) _ ?_
    simp [ares, aresL, ares1, rd, ev, alook, aput, Tryd.f15, ti47, resE_fw]
  have kl' : ((dd.t.kids.length : Int) = 1) := by omega
  have hk0 : 0 < dd.t.kids.length := by omega
  refine awp_run rfl (by simp only [fw0, fw1, fw2, fw3, fw4, fw5, fw6, fw7, ↓reduceIte, Nat.reduceAdd, Nat.reduceMul, Nat.reduceEqDiff, Nat.reduceLT, Nat.reduceLeDiff, reduceCtorEq, Bool.false_eq_true, Bool.not_true, Bool.not_false, and_self, Nat.le_refl, fl92_1, fl29_0, ti3, fl29_3, ti27, un27, Df.fw, Tm.fw, k3, decide_true, List.length_map, kl'] <;> rfl) ?_
  refine awp_cond (b := false) rfl ?_
  refine awp_skip ?_
  have g36 := c36 Γ env dd.name (funV dd.t.name (kid dd.t 0) env) (by have := hE.1; unfold reachBytes; omega)
  rw [fun_enc] at g36
  -- region 22 drawn
  refine awp_drawn [0, 0, 1, 0, 0, 1, 0, 0, 1, 0, 1, 0, 0, 0, 0] [0, 0, 2, 0, 8, 24, 0, 64, 192, 448, 960, 0, 4088, 8191, 16383] mixed rfl (by kernel_rfl) ?_
  refine dops_run 13 (by simp only [fw0, fw1, fw2, fw3, fw4, fw5, fw6, fw7, ↓reduceIte, Nat.reduceAdd, Nat.reduceMul, Nat.reduceEqDiff, Nat.reduceLT, Nat.reduceLeDiff, reduceCtorEq, Bool.false_eq_true, Bool.not_true, Bool.not_false, and_self, Nat.le_refl, fl92_0, ti9, fl92_1, fl29_1, fl29_3, ti27, el27, ti29, ti44, pl44, Df.fw, Tm.fw, Int.reduceToNat, Int.reduceLE, true_and, List.getElem?_map, kid_get hk0, Option.map_some] <;> rfl) ?_
  refine dops_fn rfl rfl rfl rfl en36 g36 ?_
  refine dops_run 1 (by simp only [fw0, fw1, fw2, fw3, fw4, fw5, fw6, fw7, ↓reduceIte, Nat.reduceAdd, Nat.reduceMul, Nat.reduceEqDiff, Nat.reduceLT, Nat.reduceLeDiff, reduceCtorEq, Bool.false_eq_true, Bool.not_true, Bool.not_false, and_self, Nat.le_refl] <;> rfl) ?_
  refine dops_end ?_
  -- region 23
  refine awp_run rfl (by simp only [fw0, fw1, fw2, fw3, fw4, fw5, fw6, fw7, ↓reduceIte, Nat.reduceAdd, Nat.reduceMul, Nat.reduceEqDiff, Nat.reduceLT, Nat.reduceLeDiff, reduceCtorEq, Bool.false_eq_true, Bool.not_true, Bool.not_false, and_self, Nat.le_refl, wrapS k (by omega)] <;> rfl) ?_
  refine ⟨(k + 1, env ++ [.mk dd.name (funV dd.t.name (kid dd.t 0) env)]), [.box dd.enc], by dsimp only; omega, ⟨by dsimp only; omega, EL_bind hE (by dsimp only; omega) (EB_mono (by omega) (funV_EB hE _ _)) _, ?_⟩, rfl, by simp, rfl, Nat.le_refl _⟩
  rw [hD, hdk]
  simp only [defsEnv, if_neg (show ¬ (dd.t.kind ≠ 3 ∨ dd.t.kids.length ≠ 1) by simp [k3, kl])]

end Go.Proofs.YtnjlfbefpoecpaaDoor

/- Terms made by hand; a run of the program that examples speak of. -/
namespace Go.Proofs.YtnjlfbefpoecpaaDoor
set_option linter.unusedVariables false
set_option linter.unusedSimpArgs false
set_option maxRecDepth 100000
open Go.RowKit Fw

def numT (n : Int) : Tm := .mk 1 [] n []
def varT (s : List UInt8) : Tm := .mk 2 s 0 []
def twoT (k : Int) (s : List UInt8) (a b : Tm) : Tm := .mk k s 0 [a, b]
def oneT (k : Int) (s : List UInt8) (a : Tm) : Tm := .mk k s 0 [a]
def getT (s : List UInt8) : Tm := oneT 10 [] (varT s)
def ifT (a b c : Tm) : Tm := .mk 6 [] 0 [a, b, c]

theorem leaf_le (k : Int) (s : List UInt8) (n : Int) : PV.leL [.int .i64 k, .str s, .int .i64 n, .vec [] true] (Tm.mk k s n []).enc := by
  simp [Tm.enc, Tm.encs, PV.le, PV.leL, PV.leLL]
theorem kids_le (k : Int) (s : List UInt8) (n : Int) (l : List Tm) : PV.leL [.int .i64 k, .str s, .int .i64 n, .vec (l.map Tm.enc) true] (Tm.mk k s n l).enc := by
  simp [Tm.enc, Tm.encs_map, PV.le, PV.leL, PV.leLL_refl]

/-- two -/
theorem c12 (Γ : Nat → PV) (k : Int) (s : List UInt8) (a b : Tm) : Gives Tryd.prog Γ 12 [.int .i64 k, .str s, .agg a.enc, .agg b.enc] (.agg (twoT k s a b).enc) := by
  refine Gives.res (p := .agg [.int .i64 k, .str s, .int .i64 0, .vec ([a, b].map Tm.enc) true]) ?_ (kids_le k s 0 [a, b])
  refine fn_of_awp Tryd.func12 rfl (by simp [Tryd.f12]) (by simp [PV.plain, PV.bd, PV.bdL, Tm.fw]) fun H => ?_
  refine awp_seq ?_
  -- region 0
  refine awp_run rfl (by simp only [fw0, fw1, fw2, fw3, fw4, fw5, fw6, fw7, ↓reduceIte, Nat.reduceAdd, Nat.reduceMul, Nat.reduceEqDiff, Nat.reduceLT, Nat.reduceLeDiff, reduceCtorEq, Bool.false_eq_true, Bool.not_true, Bool.not_false, and_self, Nat.le_refl, ti29] <;> rfl) ?_
  refine awp_seq ?_
  -- region 1
  refine awp_run rfl (by simp only [fw0, fw1, fw2, fw3, fw4, fw5, fw6, fw7, ↓reduceIte, Nat.reduceAdd, Nat.reduceMul, Nat.reduceEqDiff, Nat.reduceLT, Nat.reduceLeDiff, reduceCtorEq, Bool.false_eq_true, Bool.not_true, Bool.not_false, and_self, Nat.le_refl, ti29, un27, pl29, Tm.fw, PV.plainL, PV.bdL_append, List.take_zero, List.append_nil, Bool.and_self] <;> rfl) ?_
  refine awp_ret ?_
  refine gives_end (.inl rfl) _ ?_
  simp [ares, aresL, ares1, rd, ev, alook, aput, Tryd.f12, ti29, Tm.fw]

/-- of -/
theorem c13 (Γ : Nat → PV) (s : List UInt8) : Gives Tryd.prog Γ 13 [.str s] (.agg (varT s).enc) := by
  refine Gives.res (p := .agg [.int .i64 2, .str s, .int .i64 0, .vec [] true]) ?_ (leaf_le 2 s 0)
  refine fn_of_awp Tryd.func13 rfl (by simp [Tryd.f13]) rfl fun H => ?_
  refine awp_seq ?_
  -- region 0
  refine awp_run rfl (by simp only [fw0, fw1, fw2, fw3, fw4, fw5, fw6, fw7, ↓reduceIte, Nat.reduceAdd, Nat.reduceMul, Nat.reduceEqDiff, Nat.reduceLT, Nat.reduceLeDiff, reduceCtorEq, Bool.false_eq_true, Bool.not_true, Bool.not_false, and_self, Nat.le_refl, ti29] <;> rfl) ?_
  refine awp_seq ?_
  -- region 1
  refine awp_run rfl (by simp only [fw0, fw1, fw2, fw3, fw4, fw5, fw6, fw7, ↓reduceIte, Nat.reduceAdd, Nat.reduceMul, Nat.reduceEqDiff, Nat.reduceLT, Nat.reduceLeDiff, reduceCtorEq, Bool.false_eq_true, Bool.not_true, Bool.not_false, and_self, Nat.le_refl, ti29, pl29] <;> rfl) ?_
  refine awp_ret ?_
  refine gives_end (.inl rfl) _ ?_
  simp [ares, aresL, ares1, rd, ev, alook, aput, Tryd.f13, ti29, Tm.fw]

/-- num -/
theorem c14 (Γ : Nat → PV) (n : Int) : Gives Tryd.prog Γ 14 [.int .i64 n] (.agg (numT n).enc) := by
  refine Gives.res (p := .agg [.int .i64 1, .str [], .int .i64 n, .vec [] true]) ?_ (leaf_le 1 [] n)
  refine fn_of_awp Tryd.func14 rfl (by simp [Tryd.f14]) rfl fun H => ?_
  refine awp_seq ?_
  -- region 0
  refine awp_run rfl (by simp only [fw0, fw1, fw2, fw3, fw4, fw5, fw6, fw7, ↓reduceIte, Nat.reduceAdd, Nat.reduceMul, Nat.reduceEqDiff, Nat.reduceLT, Nat.reduceLeDiff, reduceCtorEq, Bool.false_eq_true, Bool.not_true, Bool.not_false, and_self, Nat.le_refl, ti29] <;> rfl) ?_
  refine awp_seq ?_
  -- region 1
  refine awp_run rfl (by simp only [fw0, fw1, fw2, fw3, fw4, fw5, fw6, fw7, ↓reduceIte, Nat.reduceAdd, Nat.reduceMul, Nat.reduceEqDiff, Nat.reduceLT, Nat.reduceLeDiff, reduceCtorEq, Bool.false_eq_true, Bool.not_true, Bool.not_false, and_self, Nat.le_refl, ti29, pl29] <;> rfl) ?_
  refine awp_ret ?_
  refine gives_end (.inl rfl) _ ?_
  simp [ares, aresL, ares1, rd, ev, alook, aput, Tryd.f14, ti29, Tm.fw]

/-- get -/
theorem c16 (Γ : Nat → PV) (s : List UInt8) : Gives Tryd.prog Γ 16 [.str s] (.agg (getT s).enc) := by
  refine Gives.res (p := .agg [.int .i64 10, .str [], .int .i64 0, .vec ([varT s].map Tm.enc) true]) ?_ (kids_le 10 [] 0 [varT s])
  refine fn_of_awp Tryd.func16 rfl (by simp [Tryd.f16]) (by simp [PV.plain, PV.bd, PV.bdL, Tm.fw]) fun H => ?_
  refine awp_seq ?_
  -- region 0
  refine awp_run rfl (by simp only [fw0, fw1, fw2, fw3, fw4, fw5, fw6, fw7, ↓reduceIte, Nat.reduceAdd, Nat.reduceMul, Nat.reduceEqDiff, Nat.reduceLT, Nat.reduceLeDiff, reduceCtorEq, Bool.false_eq_true, Bool.not_true, Bool.not_false, and_self, Nat.le_refl, ti29] <;> rfl) ?_
  refine awp_seq ?_
  -- region 1
  refine awp_region rfl ?_
  refine aops_run 1 (by simp only [fw0, fw1, fw2, fw3, fw4, fw5, fw6, fw7, ↓reduceIte, Nat.reduceAdd, Nat.reduceMul, Nat.reduceEqDiff, Nat.reduceLT, Nat.reduceLeDiff, reduceCtorEq, Bool.false_eq_true, Bool.not_true, Bool.not_false, and_self, Nat.le_refl] <;> rfl) ?_
  refine aops_fn rfl rfl rfl en13 (c13 Γ s) ?_
  refine aops_run 3 (by simp only [fw0, fw1, fw2, fw3, fw4, fw5, fw6, fw7, ↓reduceIte, Nat.reduceAdd, Nat.reduceMul, Nat.reduceEqDiff, Nat.reduceLT, Nat.reduceLeDiff, reduceCtorEq, Bool.false_eq_true, Bool.not_true, Bool.not_false, and_self, Nat.le_refl, un27, ti29, pl29, Tm.fw, PV.plainL, PV.bdL_append, List.take_zero, List.append_nil, Bool.and_self] <;> rfl) ?_
  refine awp_ret ?_
  refine gives_end (.inl rfl) _ ?_
  simp [ares, aresL, ares1, rd, ev, alook, aput, Tryd.f16, ti29, Tm.fw]

/-- What stands round the examples' bodies. -/
def highP (label : List UInt8) (b : Tm) : Pg := ⟨[⟨[104], [72, 105], 0⟩, ⟨[108], [76, 111], 0⟩], [⟨[99], label, 0⟩], [], b⟩
theorem enc_nil : ([] : List Df).map Df.enc = [] := rfl

/-- high -/
theorem c30 (Γ : Nat → PV) (s : List UInt8) (b : Tm) : Gives Tryd.prog Γ 30 [.str s, .agg b.enc] (.agg (highP s b).enc) := by
  refine Gives.res (p := .agg (.vec ((highP s b).ins.map Dl.enc) true :: .vec ((highP s b).cells.map Dl.enc) true :: .vec [] true :: b.enc)) ?_ (by
    simp [Pg.enc, highP, PV.le, PV.leL, PV.leLL, PV.leL_refl, PV.leLL_refl])
  refine fn_of_awp Tryd.func30 rfl (by simp [Tryd.f30]) (by simp [PV.plain, PV.bd, PV.bdL, Tm.fw, Dl.fw, highP]) fun H => ?_
  refine awp_seq ?_
  -- region 0
  refine awp_run rfl (by simp only [fw0, fw1, fw2, fw3, fw4, fw5, fw6, fw7, ↓reduceIte, Nat.reduceAdd, Nat.reduceMul, Nat.reduceEqDiff, Nat.reduceLT, Nat.reduceLeDiff, reduceCtorEq, Bool.false_eq_true, Bool.not_true, Bool.not_false, and_self, Nat.le_refl, ti31] <;> rfl) ?_
  refine awp_seq ?_
  -- region 1
  refine awp_run rfl (by simp only [fw0, fw1, fw2, fw3, fw4, fw5, fw6, fw7, ↓reduceIte, Nat.reduceAdd, Nat.reduceMul, Nat.reduceEqDiff, Nat.reduceLT, Nat.reduceLeDiff, reduceCtorEq, Bool.false_eq_true, Bool.not_true, Bool.not_false, and_self, Nat.le_refl, ti51, pl51, un25, ti29, ti31, pl31, Tm.fw, PV.plainL, PV.bdL_append, List.take_zero, List.append_nil, Bool.and_self] <;> rfl) ?_
  refine awp_ret ?_
  refine gives_end (.inl rfl) _ ?_
  simp [ares, aresL, ares1, rd, ev, alook, aput, Tryd.f30, ti31, highP, Dl.enc, Tm.fw]

theorem z34 : ([3, 4] : List Int).map (fun n => [PV.int .i64 n]) = [[.int .i64 3], [.int .i64 4]] := rfl
def runX (b : Tm) : Res := runP (highP [76, 111] b) [3, 4] 40

/-- run -/
theorem c32 (Γ : Nat → PV) (hΓ : TabK Γ) (b : Tm) : Gives Tryd.prog Γ 32 [.agg b.enc] (.agg (resE (runX b))) := by
  refine fn_of_awp Tryd.func32 rfl (by simp [Tryd.f32]) (by simp [PV.plain, PV.bd, resE_fw]) fun H => ?_
  refine awp_seq ?_
  -- region 0
  refine awp_run rfl (by simp only [fw0, fw1, fw2, fw3, fw4, fw5, fw6, fw7, ↓reduceIte, Nat.reduceAdd, Nat.reduceMul, Nat.reduceEqDiff, Nat.reduceLT, Nat.reduceLeDiff, reduceCtorEq, Bool.false_eq_true, Bool.not_true, Bool.not_false, and_self, Nat.le_refl, ti47] <;> rfl) ?_
  refine awp_seq ?_
  -- region 1
  refine awp_region rfl ?_
  refine aops_run 1 (by simp only [fw0, fw1, fw2, fw3, fw4, fw5, fw6, fw7, ↓reduceIte, Nat.reduceAdd, Nat.reduceMul, Nat.reduceEqDiff, Nat.reduceLT, Nat.reduceLeDiff, reduceCtorEq, Bool.false_eq_true, Bool.not_true, Bool.not_false, and_self, Nat.le_refl, ti29, Tm.fw] <;> rfl) ?_
  refine aops_fn rfl rfl rfl en30 (c30 Γ [76, 111] b) ?_
  refine aops_run 1 (by simp only [fw0, fw1, fw2, fw3, fw4, fw5, fw6, fw7, ↓reduceIte, Nat.reduceAdd, Nat.reduceMul, Nat.reduceEqDiff, Nat.reduceLT, Nat.reduceLeDiff, reduceCtorEq, Bool.false_eq_true, Bool.not_true, Bool.not_false, and_self, Nat.le_refl, un23, ti2] <;> rfl) ?_
  refine aops_fnLe rfl rfl rfl en15 (c15 Γ hΓ (highP [76, 111] b) [3, 4] 40 (by decide) (by simp [highP])) ?_ ?_
  · show PV.leL [.agg (highP [76, 111] b).enc, .vec [[.int .i64 3], [.int .i64 4]] true, .int .i64 40] _
    simp [PV.le, PV.leL, PV.leLL, PV.leL_refl]
  refine aops_run 1 (by simp only [fw0, fw1, fw2, fw3, fw4, fw5, fw6, fw7, ↓reduceIte, Nat.reduceAdd, Nat.reduceMul, Nat.reduceEqDiff, Nat.reduceLT, Nat.reduceLeDiff, reduceCtorEq, Bool.false_eq_true, Bool.not_true, Bool.not_false, and_self, Nat.le_refl, ti47, resE_fw] <;> rfl) ?_
  refine awp_ret ?_
  refine gives_end (.inl rfl) _ ?_
  simp [ares, aresL, ares1, rd, ev, alook, aput, Tryd.f32, ti47, resE_fw, runX]

/-- bodies' call -/
theorem c54 (Γ : Nat → PV) (a : Tm) : Gives Tryd.prog Γ 54 [.agg a.enc] (.agg (twoT 4 [] (varT [102]) a).enc) := by
  refine fn_of_awp Tryd.func54 rfl (by simp [Tryd.f54]) (by simp [PV.plain, PV.bd, PV.bdL, Tm.fw]) fun H => ?_
  refine awp_seq ?_
  -- region 0
  refine awp_run rfl (by simp only [fw0, fw1, fw2, fw3, fw4, fw5, fw6, fw7, ↓reduceIte, Nat.reduceAdd, Nat.reduceMul, Nat.reduceEqDiff, Nat.reduceLT, Nat.reduceLeDiff, reduceCtorEq, Bool.false_eq_true, Bool.not_true, Bool.not_false, and_self, Nat.le_refl, ti29] <;> rfl) ?_
  refine awp_seq ?_
  -- region 1 drawn
  refine awp_drawn [0, 1, 0, 2] [0, 0, 3, 7] mixed rfl (by kernel_rfl) ?_
  refine dops_fn rfl rfl rfl rfl en13 (c13 Γ [102]) ?_
  refine dops_run 1 (by simp only [fw0, fw1, fw2, fw3, fw4, fw5, fw6, fw7, ↓reduceIte, Nat.reduceAdd, Nat.reduceMul, Nat.reduceEqDiff, Nat.reduceLT, Nat.reduceLeDiff, reduceCtorEq, Bool.false_eq_true, Bool.not_true, Bool.not_false, and_self, Nat.le_refl, ti29, Tm.fw] <;> rfl) ?_
  refine dops_fn rfl rfl rfl rfl en12 (c12 Γ 4 [] (varT [102]) a) ?_
  refine dops_run 1 (by simp only [fw0, fw1, fw2, fw3, fw4, fw5, fw6, fw7, ↓reduceIte, Nat.reduceAdd, Nat.reduceMul, Nat.reduceEqDiff, Nat.reduceLT, Nat.reduceLeDiff, reduceCtorEq, Bool.false_eq_true, Bool.not_true, Bool.not_false, and_self, Nat.le_refl, ti29, Tm.fw] <;> rfl) ?_
  refine dops_end ?_
  refine awp_ret ?_
  refine gives_end (.inl rfl) _ ?_
  simp [ares, aresL, ares1, rd, ev, alook, aput, Tryd.f54, ti29, Tm.fw]

end Go.Proofs.YtnjlfbefpoecpaaDoor

/- The bodies of the examples, and what comes of them. -/
namespace Go.Proofs.YtnjlfbefpoecpaaDoor
set_option linter.unusedVariables false
set_option linter.unusedSimpArgs false
set_option maxRecDepth 100000
open Go.RowKit Fw

def raiseT : Tm := oneT 8 [] (numT 1)
def condT : Tm := ifT (varT [104]) raiseT (numT 2)
def idT : Tm := oneT 3 [120] (varT [120])
def bodiesL : List Tm := [twoT 12 [43] (varT [104]) (numT 1),
  twoT 11 [] (varT [99]) (varT [104]),
  twoT 9 [120] (condT) (numT 3),
  twoT 5 [102] (idT) (twoT 13 [] (twoT 4 [] (varT [102]) (varT [104])) (twoT 4 [] (varT [102]) (varT [108]))),
  twoT 13 [] (condT) (twoT 11 [] (varT [99]) (numT 1)),
  twoT 13 [] (twoT 7 [] (varT [104]) (numT 0)) (twoT 11 [] (varT [99]) (varT [108])),
  twoT 7 [] (varT [104]) (twoT 11 [] (varT [99]) (numT 0)),
  condT,
  twoT 5 [102] (oneT 3 [120] (twoT 11 [] (varT [99]) (varT [120]))) (twoT 4 [] (varT [102]) (varT [108])),
  twoT 4 [] (ifT (varT [104]) idT idT) (varT [108])]

theorem idT_le : PV.leL [.int .i64 3, .str [120], .int .i64 0, .vec ([varT [120]].map Tm.enc) true] idT.enc := kids_le _ _ _ _
theorem raiseT_le : PV.leL [.int .i64 8, .str [], .int .i64 0, .vec ([numT 1].map Tm.enc) true] raiseT.enc := kids_le _ _ _ _
theorem condT_le : PV.leL [.int .i64 6, .str [], .int .i64 0, .vec ([varT [104], raiseT, numT 2].map Tm.enc) true] condT.enc := kids_le _ _ _ _

/-- bodies -/
theorem c31 (Γ : Nat → PV) : Gives Tryd.prog Γ 31 [] (.vec (bodiesL.map Tm.enc) false) := by
  refine Gives.res (p := .vec (bodiesL.map Tm.enc) true) ?_ ⟨nofun, PV.leLL_refl _⟩
  refine fn_of_awp Tryd.func31 rfl (by simp [Tryd.f31]) (by simp [PV.plain, PV.bd]) fun H => ?_
  refine awp_seq ?_
  -- region 0
  refine awp_run rfl (by simp only [fw0, fw1, fw2, fw3, fw4, fw5, fw6, fw7, ↓reduceIte, Nat.reduceAdd, Nat.reduceMul, Nat.reduceEqDiff, Nat.reduceLT, Nat.reduceLeDiff, reduceCtorEq, Bool.false_eq_true, Bool.not_true, Bool.not_false, and_self, Nat.le_refl] <;> rfl) ?_
  refine awp_seq ?_
  -- region 1
  refine awp_region rfl ?_
  refine aops_fn rfl rfl rfl en14 (c14 Γ 1) ?_
  refine aops_run 4 (by simp only [fw0, fw1, fw2, fw3, fw4, fw5, fw6, fw7, ↓reduceIte, Nat.reduceAdd, Nat.reduceMul, Nat.reduceEqDiff, Nat.reduceLT, Nat.reduceLeDiff, reduceCtorEq, Bool.false_eq_true, Bool.not_true, Bool.not_false, and_self, Nat.le_refl, un27, ti29, pl29, Tm.fw, PV.plainL, PV.bdL_append, List.take_zero, List.append_nil, Bool.and_self] <;> rfl) ?_
  refine awp_told (told_leBox H.length (by rw [Fw.get_at0]; rfl) raiseT_le) ?_
  refine awp_heap (H' := H ++ [.box raiseT.enc]) (by rw [Fw.set_at0]; rfl) ?_
  refine awp_seq ?_
  -- region 2 drawn
  refine awp_drawn [0, 4, 0, 0, 0, 3, 2] [0, 0, 1, 7, 15, 0, 63] mixed rfl (by kernel_rfl) ?_
  refine dops_fn rfl rfl rfl rfl en13 (c13 Γ [104]) ?_
  refine dops_run 1 (by simp only [fw0, fw1, fw2, fw3, fw4, fw5, fw6, fw7, ↓reduceIte, Nat.reduceAdd, Nat.reduceMul, Nat.reduceEqDiff, Nat.reduceLT, Nat.reduceLeDiff, reduceCtorEq, Bool.false_eq_true, Bool.not_true, Bool.not_false, and_self, Nat.le_refl, ti29, Tm.fw, List.take_length] <;> rfl) ?_
  refine dops_fn rfl rfl rfl rfl en14 (c14 Γ 2) ?_
  refine dops_run 2 (by simp only [fw0, fw1, fw2, fw3, fw4, fw5, fw6, fw7, ↓reduceIte, Nat.reduceAdd, Nat.reduceMul, Nat.reduceEqDiff, Nat.reduceLT, Nat.reduceLeDiff, reduceCtorEq, Bool.false_eq_true, Bool.not_true, Bool.not_false, and_self, Nat.le_refl, un27, ti29, pl29, Tm.fw, PV.plainL, PV.bdL_append, List.take_zero, List.append_nil, Bool.and_self] <;> rfl) ?_
  refine dops_make1 rfl rfl (by simp only [fw0, fw1, fw2, fw3, fw4, fw5, fw6, fw7, ↓reduceIte, Nat.reduceAdd, Nat.reduceMul, Nat.reduceEqDiff, Nat.reduceLT, Nat.reduceLeDiff, reduceCtorEq, Bool.false_eq_true, Bool.not_true, Bool.not_false, and_self, Nat.le_refl, un27, ti29, pl29, Tm.fw, PV.plainL, PV.bdL_append, List.take_zero, List.append_nil, Bool.and_self] <;> rfl) (by simp [View.vw, List.take_append]) ?_
  refine dops_run 1 (by simp only [fw0, fw1, fw2, fw3, fw4, fw5, fw6, fw7, ↓reduceIte, Nat.reduceAdd, Nat.reduceMul, Nat.reduceEqDiff, Nat.reduceLT, Nat.reduceLeDiff, reduceCtorEq, Bool.false_eq_true, Bool.not_true, Bool.not_false, and_self, Nat.le_refl, un27, ti29, pl29, Tm.fw, PV.plainL, PV.bdL_append, List.take_zero, List.append_nil, Bool.and_self] <;> rfl) ?_
  refine dops_end ?_
  refine awp_told (told_leBox (H.length + 1) (by rw [Fw.get_at]; rfl) condT_le) ?_
  refine awp_heap (H' := H ++ [.box raiseT.enc, .box condT.enc]) (by rw [Fw.set_at]; rfl) ?_
  refine awp_seq ?_
  -- region 3
  refine awp_region rfl ?_
  refine aops_fn rfl rfl rfl en13 (c13 Γ [120]) ?_
  refine aops_run 4 (by simp only [fw0, fw1, fw2, fw3, fw4, fw5, fw6, fw7, ↓reduceIte, Nat.reduceAdd, Nat.reduceMul, Nat.reduceEqDiff, Nat.reduceLT, Nat.reduceLeDiff, reduceCtorEq, Bool.false_eq_true, Bool.not_true, Bool.not_false, and_self, Nat.le_refl, un27, ti29, pl29, Tm.fw, PV.plainL, PV.bdL_append, List.take_zero, List.append_nil, Bool.and_self] <;> rfl) ?_
  refine awp_told (told_leBox (H.length + 2) (by rw [Fw.get_at]; rfl) idT_le) ?_
  refine awp_heap (H' := H ++ [.box raiseT.enc, .box condT.enc, .box idT.enc]) (by rw [Fw.set_at]; rfl) ?_
  refine awp_seq ?_
  -- region 4
  refine awp_run rfl (by simp only [fw0, fw1, fw2, fw3, fw4, fw5, fw6, fw7, ↓reduceIte, Nat.reduceAdd, Nat.reduceMul, Nat.reduceEqDiff, Nat.reduceLT, Nat.reduceLeDiff, reduceCtorEq, Bool.false_eq_true, Bool.not_true, Bool.not_false, and_self, Nat.le_refl] <;> rfl) ?_
  refine awp_seq ?_
  -- region 5 drawn
  refine awp_drawn [0, 0, 0, 0, 0, 0, 1, 0, 0, 1, 0, 0, 0, 0, 0, 0, 0, 0, 1, 0, 0, 0, 0, 0, 0, 0, 0, 0, 0, 0, 0, 0, 0, 0, 0, 1, 0, 0, 0, 0, 0, 0, 0, 0, 0, 0, 1, 1, 0, 0, 0, 0, 0, 0] [0, 1, 3, 7, 15, 31, 0, 63, 255, 0, 0, 511, 3583, 0, 7679, 32255, 65023, 131071, 0, 262143, 786431, 1835007, 4194303, 8388607, 16777215, 33554431, 67108863, 134217727, 268435455, 536870911, 1073741823, 2147483647, 4294967295, 8589934591, 17179869183, 0, 34359738367, 103079215103, 240518168575, 515396075519, 1065151889407, 0, 515396075519, 7112465842175, 17557826306047, 35150012350463, 0, 0, 281440616972287, 562915593682943, 70334384439295, 2251765453946879, 4503599627370495, 9007199254740991] mixed rfl (by kernel_rfl) ?_
  refine dops_fn rfl rfl rfl rfl en13 (c13 Γ [104]) ?_
  refine dops_fn rfl rfl rfl rfl en14 (c14 Γ 1) ?_
  refine dops_fn rfl rfl rfl rfl en12 (c12 Γ 12 [43] (varT [104]) (numT 1)) ?_
  refine dops_fn rfl rfl rfl rfl en13 (c13 Γ [99]) ?_
  refine dops_fn rfl rfl rfl rfl en13 (c13 Γ [104]) ?_
  refine dops_fn rfl rfl rfl rfl en12 (c12 Γ 11 [] (varT [99]) (varT [104])) ?_
  refine dops_run 1 (by simp only [fw0, fw1, fw2, fw3, fw4, fw5, fw6, fw7, ↓reduceIte, Nat.reduceAdd, Nat.reduceMul, Nat.reduceEqDiff, Nat.reduceLT, Nat.reduceLeDiff, reduceCtorEq, Bool.false_eq_true, Bool.not_true, Bool.not_false, and_self, Nat.le_refl, un27, ti29, pl29, Tm.fw, PV.plainL, PV.bdL_append, List.take_zero, List.append_nil, Bool.and_self] <;> rfl) ?_
  refine dops_fn rfl rfl rfl rfl en14 (c14 Γ 3) ?_
  refine dops_fn rfl rfl rfl rfl en12 (c12 Γ 9 [120] (condT) (numT 3)) ?_
  refine dops_run 2 (by simp only [fw0, fw1, fw2, fw3, fw4, fw5, fw6, fw7, ↓reduceIte, Nat.reduceAdd, Nat.reduceMul, Nat.reduceEqDiff, Nat.reduceLT, Nat.reduceLeDiff, reduceCtorEq, Bool.false_eq_true, Bool.not_true, Bool.not_false, and_self, Nat.le_refl, un27, ti29, pl29, Tm.fw, PV.plainL, PV.bdL_append, List.take_zero, List.append_nil, Bool.and_self] <;> rfl) ?_
  refine dops_fn rfl rfl rfl rfl en13 (c13 Γ [104]) ?_
  refine dops_fn rfl rfl rfl rfl en54 (c54 Γ (varT [104])) ?_
  refine dops_run 1 (by simp only [fw0, fw1, fw2, fw3, fw4, fw5, fw6, fw7, ↓reduceIte, Nat.reduceAdd, Nat.reduceMul, Nat.reduceEqDiff, Nat.reduceLT, Nat.reduceLeDiff, reduceCtorEq, Bool.false_eq_true, Bool.not_true, Bool.not_false, and_self, Nat.le_refl, un27, ti29, pl29, Tm.fw, PV.plainL, PV.bdL_append, List.take_zero, List.append_nil, Bool.and_self] <;> rfl) ?_
  refine dops_fn rfl rfl rfl rfl en13 (c13 Γ [108]) ?_
  refine dops_fn rfl rfl rfl rfl en54 (c54 Γ (varT [108])) ?_
  refine dops_fn rfl rfl rfl rfl en12 (c12 Γ 13 [] (twoT 4 [] (varT [102]) (varT [104])) (twoT 4 [] (varT [102]) (varT [108]))) ?_
  refine dops_fn rfl rfl rfl rfl en12 (c12 Γ 5 [102] (idT) (twoT 13 [] (twoT 4 [] (varT [102]) (varT [104])) (twoT 4 [] (varT [102]) (varT [108])))) ?_
  refine dops_run 1 (by simp only [fw0, fw1, fw2, fw3, fw4, fw5, fw6, fw7, ↓reduceIte, Nat.reduceAdd, Nat.reduceMul, Nat.reduceEqDiff, Nat.reduceLT, Nat.reduceLeDiff, reduceCtorEq, Bool.false_eq_true, Bool.not_true, Bool.not_false, and_self, Nat.le_refl, un27, ti29, pl29, Tm.fw, PV.plainL, PV.bdL_append, List.take_zero, List.append_nil, Bool.and_self] <;> rfl) ?_
  refine dops_fn rfl rfl rfl rfl en13 (c13 Γ [99]) ?_
  refine dops_fn rfl rfl rfl rfl en14 (c14 Γ 1) ?_
  refine dops_fn rfl rfl rfl rfl en12 (c12 Γ 11 [] (varT [99]) (numT 1)) ?_
  refine dops_fn rfl rfl rfl rfl en12 (c12 Γ 13 [] (condT) (twoT 11 [] (varT [99]) (numT 1))) ?_
  refine dops_fn rfl rfl rfl rfl en13 (c13 Γ [104]) ?_
  refine dops_fn rfl rfl rfl rfl en14 (c14 Γ 0) ?_
  refine dops_fn rfl rfl rfl rfl en12 (c12 Γ 7 [] (varT [104]) (numT 0)) ?_
  refine dops_fn rfl rfl rfl rfl en13 (c13 Γ [99]) ?_
  refine dops_fn rfl rfl rfl rfl en13 (c13 Γ [108]) ?_
  refine dops_fn rfl rfl rfl rfl en12 (c12 Γ 11 [] (varT [99]) (varT [108])) ?_
  refine dops_fn rfl rfl rfl rfl en12 (c12 Γ 13 [] (twoT 7 [] (varT [104]) (numT 0)) (twoT 11 [] (varT [99]) (varT [108]))) ?_
  refine dops_fn rfl rfl rfl rfl en13 (c13 Γ [104]) ?_
  refine dops_fn rfl rfl rfl rfl en13 (c13 Γ [99]) ?_
  refine dops_fn rfl rfl rfl rfl en14 (c14 Γ 0) ?_
  refine dops_fn rfl rfl rfl rfl en12 (c12 Γ 11 [] (varT [99]) (numT 0)) ?_
  refine dops_fn rfl rfl rfl rfl en12 (c12 Γ 7 [] (varT [104]) (twoT 11 [] (varT [99]) (numT 0))) ?_
  refine dops_run 1 (by simp only [fw0, fw1, fw2, fw3, fw4, fw5, fw6, fw7, ↓reduceIte, Nat.reduceAdd, Nat.reduceMul, Nat.reduceEqDiff, Nat.reduceLT, Nat.reduceLeDiff, reduceCtorEq, Bool.false_eq_true, Bool.not_true, Bool.not_false, and_self, Nat.le_refl, un27, ti29, pl29, Tm.fw, PV.plainL, PV.bdL_append, List.take_zero, List.append_nil, Bool.and_self] <;> rfl) ?_
  refine dops_fn rfl rfl rfl rfl en13 (c13 Γ [99]) ?_
  refine dops_fn rfl rfl rfl rfl en13 (c13 Γ [120]) ?_
  refine dops_fn rfl rfl rfl rfl en12 (c12 Γ 11 [] (varT [99]) (varT [120])) ?_
  refine dops_run 3 (by simp only [fw0, fw1, fw2, fw3, fw4, fw5, fw6, fw7, ↓reduceIte, Nat.reduceAdd, Nat.reduceMul, Nat.reduceEqDiff, Nat.reduceLT, Nat.reduceLeDiff, reduceCtorEq, Bool.false_eq_true, Bool.not_true, Bool.not_false, and_self, Nat.le_refl, un27, ti29, pl29, Tm.fw, PV.plainL, PV.bdL_append, List.take_zero, List.append_nil, Bool.and_self] <;> rfl) ?_
  refine dops_fn rfl rfl rfl rfl en13 (c13 Γ [108]) ?_
  refine dops_fn rfl rfl rfl rfl en54 (c54 Γ (varT [108])) ?_
  refine dops_fnLe rfl rfl rfl rfl en12 (c12 Γ 5 [102] (oneT 3 [120] (twoT 11 [] (varT [99]) (varT [120]))) (twoT 4 [] (varT [102]) (varT [108]))) ?_ ?_
  · exact ⟨PV.le_refl _, PV.le_refl _, kids_le _ _ _ [twoT 11 [] (varT [99]) (varT [120])], PV.le_refl _, trivial⟩
  refine dops_fn rfl rfl rfl rfl en13 (c13 Γ [104]) ?_
  refine dops_run 4 (by simp only [fw0, fw1, fw2, fw3, fw4, fw5, fw6, fw7, ↓reduceIte, Nat.reduceAdd, Nat.reduceMul, Nat.reduceEqDiff, Nat.reduceLT, Nat.reduceLeDiff, reduceCtorEq, Bool.false_eq_true, Bool.not_true, Bool.not_false, and_self, Nat.le_refl, un27, ti29, pl29, Tm.fw, PV.plainL, PV.bdL_append, List.take_zero, List.append_nil, Bool.and_self] <;> rfl) ?_
  refine dops_fn rfl rfl rfl rfl en13 (c13 Γ [108]) ?_
  refine dops_fnLe rfl rfl rfl rfl en12 (c12 Γ 4 [] (ifT (varT [104]) idT idT) (varT [108])) ?_ ?_
  · exact ⟨PV.le_refl _, PV.le_refl _, kids_le _ _ _ [varT [104], idT, idT], PV.le_refl _, trivial⟩
  refine dops_run 2 (by simp only [fw0, fw1, fw2, fw3, fw4, fw5, fw6, fw7, ↓reduceIte, Nat.reduceAdd, Nat.reduceMul, Nat.reduceEqDiff, Nat.reduceLT, Nat.reduceLeDiff, reduceCtorEq, Bool.false_eq_true, Bool.not_true, Bool.not_false, and_self, Nat.le_refl, un27, ti29, pl29, Tm.fw, PV.plainL, PV.bdL_append, List.take_zero, List.append_nil, Bool.and_self] <;> rfl) ?_
  refine dops_end ?_
  refine awp_ret ?_
  refine gives_end (.inl rfl) _ ?_
  simp [ares, aresL, ares1, rd, ev, alook, aput, Tryd.f31, bodiesL]

end Go.Proofs.YtnjlfbefpoecpaaDoor

/- What comes of the examples' bodies: computed. -/
namespace Go.Proofs.YtnjlfbefpoecpaaDoor
set_option linter.unusedVariables false
set_option linter.unusedSimpArgs false
set_option maxRecDepth 100000
open Go.RowKit Fw

def statusL : List Int := [1, 1, 1, 1, 2, 0, 0, 2, 1, 1]
def wantL : List Int := [4, 0, 3, 4, 0, 0, 0, 1, 0, 4]
theorem runs_st : bodiesL.map (fun b => (runX b).st) = statusL := by kernel_rfl
theorem runs_ok : ((bodiesL.zip wantL).all fun x => decide ((runX x.1).st = 1) == false || (decide ((runX x.1).v.kind = 1) && decide ((runX x.1).v.n = x.2))) = true := by kernel_rfl

theorem run_b1 : ((runX (bodiesL.getD 1 zeroT)).c.map (·.n)) = [3] := by kernel_rfl
theorem run_one : (runX (numT 7)).f = 39 := by kernel_rfl
theorem run_odd : (runX (twoT 4 [] (numT 1) (numT 2))).st = 3 ∧ (runX (twoT 4 [] (numT 1) (numT 2))).f = 37 := ⟨by kernel_rfl, by kernel_rfl⟩
theorem run_none : runP (highP [76, 111] (numT 7)) [] 0 = ⟨0, zeroV, [⟨[99], 0⟩], 0⟩ := by kernel_rfl
theorem run_long : (runP (highP [76, 111] (numT 7)) [] 1099511627776).f = 99999 := by kernel_rfl
theorem run_get : (runX (getT [99])).v.n = 0 := by kernel_rfl
theorem run_of : (runX (varT [99])).v.kind = 2 := by kernel_rfl

end Go.Proofs.YtnjlfbefpoecpaaDoor

/- The examples are as the chapter says. -/
namespace Go.Proofs.YtnjlfbefpoecpaaDoor
set_option linter.unusedVariables false
set_option linter.unusedSimpArgs false
set_option maxRecDepth 100000
open Go.RowKit Fw

def want88 : List (List PV) := [[.int .i64 1], [.int .i64 1], [.int .i64 1], [.int .i64 1], [.int .i64 2], [.int .i64 0], [.int .i64 0], [.int .i64 2], [.int .i64 1], [.int .i64 1]]
def want23 : List (List PV) := [[.int .i64 4], [.int .i64 0], [.int .i64 3], [.int .i64 4], [.int .i64 0], [.int .i64 0], [.int .i64 0], [.int .i64 1], [.int .i64 0], [.int .i64 4]]
theorem want88_eq : want88 = statusL.map fun z => [PV.int .i64 z] := rfl
theorem want23_eq : want23 = wantL.map fun z => [PV.int .i64 z] := rfl

theorem body_at {i : Nat} (h : i < 10) : ∃ b s w, bodiesL[i]? = some b ∧ statusL[i]? = some s ∧ wantL[i]? = some w ∧ (runX b).st = s ∧ (s = 1 → (runX b).v.kind = 1 ∧ (runX b).v.n = w) := by
  have hb : bodiesL[i]? = some (bodiesL[i]'h) := List.getElem?_eq_getElem h
  have hs : statusL[i]? = some (statusL[i]'h) := List.getElem?_eq_getElem h
  have hw : wantL[i]? = some (wantL[i]'h) := List.getElem?_eq_getElem h
  refine ⟨_, _, _, hb, hs, hw, ?_, fun h1 => ?_⟩
  · have := congrArg (fun l => l[i]?) runs_st
    simp only [List.getElem?_map, hb, hs, Option.map_some, Option.some.injEq] at this
    exact this
  · have h2 := runs_ok
    rw [List.all_eq_true] at h2
    have hst : (runX (bodiesL[i]'h)).st = 1 := by
      have := congrArg (fun l => l[i]?) runs_st
      simp only [List.getElem?_map, hb, hs, Option.map_some, Option.some.injEq] at this
      rw [this, h1]
    have hm : (bodiesL[i]'h, wantL[i]'h) ∈ bodiesL.zip wantL := List.mem_of_getElem? (i := i) (by
      rw [List.getElem?_zip_eq_some]; exact ⟨hb, hw⟩)
    have := h2 _ hm
    simp only [hst, decide_true, Bool.true_eq, Bool.or_eq_true, Bool.and_eq_true, decide_eq_true_eq] at this
    rcases this with h | h
    · cases h
    · exact h

theorem encA_fw : (∀ (v : Val) (l : List PV), (v.enc ++ l)[0]? = some (.int .i64 v.kind)) ∧ (∀ (v : Val) (l : List PV), (v.enc ++ l).drop 1 = .int .i64 v.n :: (.str v.name :: (v.t.enc ++ [.vec (v.env.map Bd.enc) false] ++ l))) :=
  ⟨fun v l => by rw [Val.enc_eq]; rfl, fun v l => by rw [Val.enc_eq]; rfl⟩

theorem encB_fw : ∀ v : Val, v.enc[1]? = some (.int .i64 v.n) := fun v => by rw [Val.enc_eq]; rfl

theorem resB_fw : ∀ r : Res, (resE r).drop 2 = .int .i64 r.v.n :: (.str r.v.name :: (r.v.t.enc ++ [.vec (r.v.env.map Bd.enc) false] ++ [.vec (r.c.map Sl.enc) false, .int .i64 r.f])) :=
  fun r => encA_fw.2 r.v _

/-- examples -/
theorem c9 (Γ : Nat → PV) (hΓ : TabK Γ) : Gives Tryd.prog Γ 9 [] (.bool true) := by
  refine fn_of_awp Tryd.func9 rfl (by simp [Tryd.f9]) rfl fun H => ?_
  refine awp_seq ?_
  -- region 0
  refine awp_run rfl (by simp only [fw0, fw1, fw2, fw3, fw4, fw5, fw6, fw7, ↓reduceIte, Nat.reduceAdd, Nat.reduceMul, Nat.reduceEqDiff, Nat.reduceLT, Nat.reduceLeDiff, reduceCtorEq, Bool.false_eq_true, Bool.not_true, Bool.not_false, and_self, Nat.le_refl] <;> rfl) ?_
  refine awp_seq ?_
  -- region 1
  refine awp_region rfl ?_
  refine aops_fn rfl rfl rfl en31 (c31 Γ) ?_
  refine aops_run 1 (by simp only [fw0, fw1, fw2, fw3, fw4, fw5, fw6, fw7, ↓reduceIte, Nat.reduceAdd, Nat.reduceMul, Nat.reduceEqDiff, Nat.reduceLT, Nat.reduceLeDiff, reduceCtorEq, Bool.false_eq_true, Bool.not_true, Bool.not_false, and_self, Nat.le_refl] <;> rfl) ?_
  refine awp_bd fun hbd => ?_
  refine awp_seq ?_
  -- region 2
  refine awp_run rfl (by simp only [fw0, fw1, fw2, fw3, fw4, fw5, fw6, fw7, ↓reduceIte, Nat.reduceAdd, Nat.reduceMul, Nat.reduceEqDiff, Nat.reduceLT, Nat.reduceLeDiff, reduceCtorEq, Bool.false_eq_true, Bool.not_true, Bool.not_false, and_self, Nat.le_refl, un23, ti2] <;> rfl) ?_
  refine awp_seq ?_
  -- region 3
  refine awp_run rfl (by simp only [fw0, fw1, fw2, fw3, fw4, fw5, fw6, fw7, ↓reduceIte, Nat.reduceAdd, Nat.reduceMul, Nat.reduceEqDiff, Nat.reduceLT, Nat.reduceLeDiff, reduceCtorEq, Bool.false_eq_true, Bool.not_true, Bool.not_false, and_self, Nat.le_refl, un88, ti3] <;> rfl) ?_
  refine awp_seq ?_
  refine awp_seq ?_
  -- region 4
  refine awp_run rfl (by simp only [fw0, fw1, fw2, fw3, fw4, fw5, fw6, fw7, ↓reduceIte, Nat.reduceAdd, Nat.reduceMul, Nat.reduceEqDiff, Nat.reduceLT, Nat.reduceLeDiff, reduceCtorEq, Bool.false_eq_true, Bool.not_true, Bool.not_false, and_self, Nat.le_refl] <;> rfl) ?_
  refine awp_block ?_
  refine awp_forG [0, 1, 2, 3, 4] (fun i : Nat => [.bool false, .vec (bodiesL.map Tm.enc) false, .vec want23 true, .vec want88 true, .int .i64 i])
    (fun _ => H) (fun i => 10 - i) (fun i => i ≤ 10) 0 (by simp [alook, aput, ev, want23, want88]) rfl (Nat.zero_le _) (fun i _ => ⟨hbd, by simp [PV.bdL, PV.bd]⟩) (fun i _ b hb => by cases hb) fun i hi => ?_
  have hlen : bodiesL.length = 10 := rfl
  refine awp_seq ?_
  refine awp_seq ?_
  -- region 5
  refine awp_run rfl (by simp only [fw0, fw1, fw2, fw3, fw4, fw5, fw6, fw7, ↓reduceIte, Nat.reduceAdd, Nat.reduceMul, Nat.reduceEqDiff, Nat.reduceLT, Nat.reduceLeDiff, reduceCtorEq, Bool.false_eq_true, Bool.not_true, Bool.not_false, and_self, Nat.le_refl, un27, List.length_map, hlen] <;> rfl) ?_
  refine awp_cond (by simp only [fw0, fw1, fw2, fw3, fw4, fw5, fw6, fw7, ↓reduceIte, Nat.reduceAdd, Nat.reduceMul, Nat.reduceEqDiff, Nat.reduceLT, Nat.reduceLeDiff, reduceCtorEq, Bool.false_eq_true, Bool.not_true, Bool.not_false, and_self, Nat.le_refl] <;> rfl) ?_
  by_cases hc : (i : Int) < ((10 : Nat) : Int)
  · simp only [hc, decide_true, ↓reduceIte]
    refine awp_skip ?_
    have hi10 : i < 10 := by omega
    obtain ⟨b, s, w, gb, gs, gw, hst, hval⟩ := body_at hi10
    have g88 : want88[i]? = some [.int .i64 s] := by rw [want88_eq, List.getElem?_map, gs]; rfl
    have g23 : want23[i]? = some [.int .i64 w] := by rw [want23_eq, List.getElem?_map, gw]; rfl
    have hlt : i < 10 := hi10
    refine awp_seq ?_
    refine awp_block ?_
    refine awp_seq ?_
    -- region 7
    refine awp_region rfl ?_
    refine aops_run 4 (by simp only [fw0, fw1, fw2, fw3, fw4, fw5, fw6, fw7, ↓reduceIte, Nat.reduceAdd, Nat.reduceMul, Nat.reduceEqDiff, Nat.reduceLT, Nat.reduceLeDiff, reduceCtorEq, Bool.false_eq_true, Bool.not_true, Bool.not_false, and_self, Nat.le_refl, el27, ti29, Tm.fw, List.getElem?_map, gb, Option.map_some, Int.natCast_nonneg] <;> rfl) ?_
    refine aops_fn rfl rfl rfl en32 (c32 Γ hΓ b) ?_
    refine aops_run 2 (by simp only [fw0, fw1, fw2, fw3, fw4, fw5, fw6, fw7, ↓reduceIte, Nat.reduceAdd, Nat.reduceMul, Nat.reduceEqDiff, Nat.reduceLT, Nat.reduceLeDiff, reduceCtorEq, Bool.false_eq_true, Bool.not_true, Bool.not_false, and_self, Nat.le_refl, ti47, resE_fw] <;> rfl) ?_
    refine awp_seq ?_
    -- region 8 drawn
    by_cases hs1 : s = 1
    · obtain ⟨hk, hn⟩ := hval hs1
      subst hs1
      refine awp_drun [0, 1, 0, 0, 0, 1, 0, 0, 0, 0, 0, 1, 0, 0, 0, 0, 1, 0, 0, 0, 0, 1, 0, 0, 0, 1, 0, 0, 0, 0] [0, 1, 0, 0, 12, 28, 63, 127, 255, 255, 1023, 2047, 4095, 8191, 16383, 32767, 65535, 131071, 262143, 524287, 1048575, 2097151, 524287, 524287, 13107199, 29884415, 67108863, 134217727, 268435455, 536870911] mixed rfl (by kernel_rfl) (by simp only [fw0, fw1, fw2, fw3, fw4, fw5, fw6, fw7, ↓reduceIte, Nat.reduceAdd, Nat.reduceMul, Nat.reduceEqDiff, Nat.reduceLT, Nat.reduceLeDiff, reduceCtorEq, Bool.false_eq_true, Bool.not_true, Bool.not_false, and_self, Nat.le_refl, fl47_0, ti3, el88, fl47_1, fl44_0, fl44_1, ti2, el23, resE_fw, enc_drop, encA_fw, resB_fw, Val.fw, g88, g23, hst, hk, hn, Int.natCast_nonneg, decide_true, Bool.not_true] <;> rfl) ?_
      refine awp_cond (b := false) rfl ?_
      refine awp_skip ?_
      -- region 6
      refine awp_run rfl (by simp only [fw0, fw1, fw2, fw3, fw4, fw5, fw6, fw7, ↓reduceIte, Nat.reduceAdd, Nat.reduceMul, Nat.reduceEqDiff, Nat.reduceLT, Nat.reduceLeDiff, reduceCtorEq, Bool.false_eq_true, Bool.not_true, Bool.not_false, and_self, Nat.le_refl, wrapS i (by omega)] <;> rfl) ?_
      refine ⟨i + 1, _, by omega, by omega, by rfl, rfl, rfl, Nat.le_refl _⟩
    · refine awp_drun [0, 1, 0, 0, 0, 1, 0, 0, 0, 0, 0, 1, 0, 0, 0, 0, 1, 0, 0, 0, 0, 1, 0, 0, 0, 1, 0, 0, 0, 0] [0, 1, 0, 0, 12, 28, 63, 127, 255, 255, 1023, 2047, 4095, 8191, 16383, 32767, 65535, 131071, 262143, 524287, 1048575, 2097151, 524287, 524287, 13107199, 29884415, 67108863, 134217727, 268435455, 536870911] mixed rfl (by kernel_rfl) (by simp only [fw0, fw1, fw2, fw3, fw4, fw5, fw6, fw7, ↓reduceIte, Nat.reduceAdd, Nat.reduceMul, Nat.reduceEqDiff, Nat.reduceLT, Nat.reduceLeDiff, reduceCtorEq, Bool.false_eq_true, Bool.not_true, Bool.not_false, and_self, Nat.le_refl, fl47_0, ti3, el88, fl47_1, fl44_0, fl44_1, ti2, el23, resE_fw, enc_drop, encA_fw, resB_fw, Val.fw, g88, g23, hst, hs1, Int.natCast_nonneg, decide_true, decide_false, Bool.not_true] <;> rfl) ?_
      refine awp_cond (b := false) rfl ?_
      refine awp_skip ?_
      -- region 6
      refine awp_run rfl (by simp only [fw0, fw1, fw2, fw3, fw4, fw5, fw6, fw7, ↓reduceIte, Nat.reduceAdd, Nat.reduceMul, Nat.reduceEqDiff, Nat.reduceLT, Nat.reduceLeDiff, reduceCtorEq, Bool.false_eq_true, Bool.not_true, Bool.not_false, and_self, Nat.le_refl, wrapS i (by omega)] <;> rfl) ?_
      refine ⟨i + 1, _, by omega, by omega, by rfl, rfl, rfl, Nat.le_refl _⟩
  simp only [hc, decide_false, Bool.false_eq_true, ↓reduceIte]
  refine awp_exit ?_
  simp only [Post.block, Post.then, ↓reduceIte]
  refine awp_seq ?_
  -- region 10
  refine awp_region rfl ?_
  have gb1 : bodiesL[1]? = some (bodiesL.getD 1 zeroT) := rfl
  refine aops_run 3 (by simp only [fw0, fw1, fw2, fw3, fw4, fw5, fw6, fw7, ↓reduceIte, Nat.reduceAdd, Nat.reduceMul, Nat.reduceEqDiff, Nat.reduceLT, Nat.reduceLeDiff, reduceCtorEq, Bool.false_eq_true, Bool.not_true, Bool.not_false, and_self, Nat.le_refl, el27, ti29, Tm.fw, List.getElem?_map, gb1, Option.map_some] <;> rfl) ?_
  refine aops_fn rfl rfl rfl en32 (c32 Γ hΓ (bodiesL.getD 1 zeroT)) ?_
  refine aops_run 2 (by simp only [fw0, fw1, fw2, fw3, fw4, fw5, fw6, fw7, ↓reduceIte, Nat.reduceAdd, Nat.reduceMul, Nat.reduceEqDiff, Nat.reduceLT, Nat.reduceLeDiff, reduceCtorEq, Bool.false_eq_true, Bool.not_true, Bool.not_false, and_self, Nat.le_refl, ti47, resE_fw] <;> rfl) ?_
  refine awp_seq ?_
  -- region 11
  refine awp_region rfl ?_
  refine aops_fn rfl rfl rfl en14 (c14 Γ 7) ?_
  refine aops_fn rfl rfl rfl en32 (c32 Γ hΓ (numT 7)) ?_
  refine aops_run 2 (by simp only [fw0, fw1, fw2, fw3, fw4, fw5, fw6, fw7, ↓reduceIte, Nat.reduceAdd, Nat.reduceMul, Nat.reduceEqDiff, Nat.reduceLT, Nat.reduceLeDiff, reduceCtorEq, Bool.false_eq_true, Bool.not_true, Bool.not_false, and_self, Nat.le_refl, ti47, resE_fw] <;> rfl) ?_
  refine awp_seq ?_
  -- region 12
  refine awp_region rfl ?_
  refine aops_fn rfl rfl rfl en14 (c14 Γ 1) ?_
  refine aops_fn rfl rfl rfl en14 (c14 Γ 2) ?_
  refine aops_fn rfl rfl rfl en12 (c12 Γ 4 [] (numT 1) (numT 2)) ?_
  refine aops_fn rfl rfl rfl en32 (c32 Γ hΓ (twoT 4 [] (numT 1) (numT 2))) ?_
  refine aops_run 2 (by simp only [fw0, fw1, fw2, fw3, fw4, fw5, fw6, fw7, ↓reduceIte, Nat.reduceAdd, Nat.reduceMul, Nat.reduceEqDiff, Nat.reduceLT, Nat.reduceLeDiff, reduceCtorEq, Bool.false_eq_true, Bool.not_true, Bool.not_false, and_self, Nat.le_refl, ti47, resE_fw] <;> rfl) ?_
  refine awp_seq ?_
  -- region 13
  refine awp_region rfl ?_
  refine aops_fn rfl rfl rfl en14 (c14 Γ 7) ?_
  refine aops_fn rfl rfl rfl en30 (c30 Γ [76, 111] (numT 7)) ?_
  refine aops_fnLe rfl rfl rfl en15 (c15 Γ hΓ (highP [76, 111] (numT 7)) [] 0 (by decide) (by simp [highP])) ?_ ?_
  · exact ⟨PV.le_refl _, ⟨nofun, trivial⟩, PV.le_refl _, trivial⟩
  refine aops_run 2 (by simp only [fw0, fw1, fw2, fw3, fw4, fw5, fw6, fw7, ↓reduceIte, Nat.reduceAdd, Nat.reduceMul, Nat.reduceEqDiff, Nat.reduceLT, Nat.reduceLeDiff, reduceCtorEq, Bool.false_eq_true, Bool.not_true, Bool.not_false, and_self, Nat.le_refl, ti47, resE_fw] <;> rfl) ?_
  refine awp_seq ?_
  -- region 14
  refine awp_region rfl ?_
  refine aops_fn rfl rfl rfl en14 (c14 Γ 7) ?_
  refine aops_fn rfl rfl rfl en30 (c30 Γ [76, 111] (numT 7)) ?_
  refine aops_fnLe rfl rfl rfl en15 (c15 Γ hΓ (highP [76, 111] (numT 7)) [] 1099511627776 (by decide) (by simp [highP])) ?_ ?_
  · exact ⟨PV.le_refl _, ⟨nofun, trivial⟩, PV.le_refl _, trivial⟩
  refine aops_run 2 (by simp only [fw0, fw1, fw2, fw3, fw4, fw5, fw6, fw7, ↓reduceIte, Nat.reduceAdd, Nat.reduceMul, Nat.reduceEqDiff, Nat.reduceLT, Nat.reduceLeDiff, reduceCtorEq, Bool.false_eq_true, Bool.not_true, Bool.not_false, and_self, Nat.le_refl, ti47, resE_fw] <;> rfl) ?_
  refine awp_seq ?_
  refine awp_seq ?_
  have hr1 := run_b1
  have hr7 := run_one
  obtain ⟨hro1, hro2⟩ := run_odd
  have hrl := run_long
  have hrg := run_get
  have hrf := run_of
  have g1 := c32 Γ hΓ (getT [99])
  have g2 := c32 Γ hΓ (varT [99])
  rw [run_none]
  generalize runX (getT [99]) = rg at hrg g1
  generalize runX (varT [99]) = rf at hrf g2
  generalize runX (bodiesL.getD 1 zeroT) = r1 at hr1 ⊢
  generalize runX (numT 7) = r7 at hr7 ⊢
  generalize runX (twoT 4 [] (numT 1) (numT 2)) = ro at hro1 hro2 ⊢
  generalize runP (highP [76, 111] (numT 7)) [] 1099511627776 = rl at hrl ⊢
  obtain ⟨x1, hx1, hx2⟩ : ∃ x, r1.c = [x] ∧ x.n = 3 := by
    cases h : r1.c with
    | nil => rw [h] at hr1; cases hr1
    | cons x l =>
      rw [h] at hr1
      cases l with
      | nil => simp only [List.map_cons, List.map_nil, List.cons.injEq, and_true] at hr1; exact ⟨x, rfl, hr1⟩
      | cons y l => simp at hr1
  have hd9 : (resE r1).drop 9 = [.vec [x1.enc] false, .int .i64 r1.f] := by simp only [resE_fw, hx1]; rfl
  have hz : (resE ⟨0, zeroV, [⟨[99], 0⟩], 0⟩).drop 9 = [.vec [Sl.enc ⟨[99], 0⟩] false, .int .i64 0] := by simp only [resE_fw]; rfl
  -- region 15
  refine awp_run rfl (by simp only [fw0, fw1, fw2, fw3, fw4, fw5, fw6, fw7, ↓reduceIte, Nat.reduceAdd, Nat.reduceMul, Nat.reduceEqDiff, Nat.reduceLT, Nat.reduceLeDiff, reduceCtorEq, Bool.false_eq_true, Bool.not_true, Bool.not_false, and_self, Nat.le_refl, fl47_2, ti45, un45, hd9, hz, List.length_cons, List.length_nil, Fw.get_at] <;> rfl) ?_
  refine awp_cond (b := false) rfl ?_
  refine awp_skip ?_
  refine awp_seq ?_
  -- region 17
  refine awp_region rfl ?_
  refine aops_run 7 (by simp only [fw0, fw1, fw2, fw3, fw4, fw5, fw6, fw7, ↓reduceIte, Nat.reduceAdd, Nat.reduceMul, Nat.reduceEqDiff, Nat.reduceLT, Nat.reduceLeDiff, reduceCtorEq, Bool.false_eq_true, Bool.not_true, Bool.not_false, and_self, Nat.le_refl, fl47_2, ti45, el45, fl53_1, ti2, fl47_3, ti3, fl47_0, hd9, hz, hx2, hr7, hro1, hro2, hrl, resE_fw, Sl.fw] <;> rfl) ?_
  refine aops_run 5 (by simp only [fw0, fw1, fw2, fw3, fw4, fw5, fw6, fw7, ↓reduceIte, Nat.reduceAdd, Nat.reduceMul, Nat.reduceEqDiff, Nat.reduceLT, Nat.reduceLeDiff, reduceCtorEq, Bool.false_eq_true, Bool.not_true, Bool.not_false, and_self, Nat.le_refl, fl47_2, ti45, el45, fl53_1, ti2, fl47_3, ti3, fl47_0, hd9, hz, hx2, hr7, hro1, hro2, hrl, resE_fw, Sl.fw] <;> rfl) ?_
  refine aops_run 5 (by simp only [fw0, fw1, fw2, fw3, fw4, fw5, fw6, fw7, ↓reduceIte, Nat.reduceAdd, Nat.reduceMul, Nat.reduceEqDiff, Nat.reduceLT, Nat.reduceLeDiff, reduceCtorEq, Bool.false_eq_true, Bool.not_true, Bool.not_false, and_self, Nat.le_refl, fl47_2, ti45, el45, fl53_1, ti2, fl47_3, ti3, fl47_0, hd9, hz, hx2, hr7, hro1, hro2, hrl, resE_fw, Sl.fw] <;> rfl) ?_
  refine aops_run 5 (by simp only [fw0, fw1, fw2, fw3, fw4, fw5, fw6, fw7, ↓reduceIte, Nat.reduceAdd, Nat.reduceMul, Nat.reduceEqDiff, Nat.reduceLT, Nat.reduceLeDiff, reduceCtorEq, Bool.false_eq_true, Bool.not_true, Bool.not_false, and_self, Nat.le_refl, fl47_2, ti45, el45, fl53_1, ti2, fl47_3, ti3, fl47_0, hd9, hz, hx2, hr7, hro1, hro2, hrl, resE_fw, Sl.fw] <;> rfl) ?_
  refine aops_run 5 (by simp only [fw0, fw1, fw2, fw3, fw4, fw5, fw6, fw7, ↓reduceIte, Nat.reduceAdd, Nat.reduceMul, Nat.reduceEqDiff, Nat.reduceLT, Nat.reduceLeDiff, reduceCtorEq, Bool.false_eq_true, Bool.not_true, Bool.not_false, and_self, Nat.le_refl, fl47_2, ti45, el45, fl53_1, ti2, fl47_3, ti3, fl47_0, hd9, hz, hx2, hr7, hro1, hro2, hrl, resE_fw, Sl.fw] <;> rfl) ?_
  refine aops_run 5 (by simp only [fw0, fw1, fw2, fw3, fw4, fw5, fw6, fw7, ↓reduceIte, Nat.reduceAdd, Nat.reduceMul, Nat.reduceEqDiff, Nat.reduceLT, Nat.reduceLeDiff, reduceCtorEq, Bool.false_eq_true, Bool.not_true, Bool.not_false, and_self, Nat.le_refl, fl47_2, ti45, el45, fl53_1, ti2, fl47_3, ti3, fl47_0, hd9, hz, hx2, hr7, hro1, hro2, hrl, resE_fw, Sl.fw] <;> rfl) ?_
  refine aops_run 5 (by simp only [fw0, fw1, fw2, fw3, fw4, fw5, fw6, fw7, ↓reduceIte, Nat.reduceAdd, Nat.reduceMul, Nat.reduceEqDiff, Nat.reduceLT, Nat.reduceLeDiff, reduceCtorEq, Bool.false_eq_true, Bool.not_true, Bool.not_false, and_self, Nat.le_refl, fl47_2, ti45, el45, fl53_1, ti2, fl47_3, ti3, fl47_0, hd9, hz, hx2, hr7, hro1, hro2, hrl, resE_fw, Sl.fw] <;> rfl) ?_
  refine aops_fnIf rfl rfl rfl rfl rfl en16 (c16 Γ [99]) ?_
  refine aops_fnIf rfl rfl rfl rfl rfl en32 g1 ?_
  refine aops_run 5 (by simp only [fw0, fw1, fw2, fw3, fw4, fw5, fw6, fw7, ↓reduceIte, Nat.reduceAdd, Nat.reduceMul, Nat.reduceEqDiff, Nat.reduceLT, Nat.reduceLeDiff, reduceCtorEq, Bool.false_eq_true, Bool.not_true, Bool.not_false, and_self, Nat.le_refl, fl47_1, fl44_1, encB_fw, Val.fw, decide_true, resE_fw, enc_drop, encA_fw, resB_fw, hrg] <;> rfl) ?_
  refine aops_fnIf rfl rfl rfl rfl rfl en13 (c13 Γ [99]) ?_
  refine aops_fnIf rfl rfl rfl rfl rfl en32 g2 ?_
  refine aops_run 5 (by simp only [fw0, fw1, fw2, fw3, fw4, fw5, fw6, fw7, ↓reduceIte, Nat.reduceAdd, Nat.reduceMul, Nat.reduceEqDiff, Nat.reduceLT, Nat.reduceLeDiff, reduceCtorEq, Bool.false_eq_true, Bool.not_true, Bool.not_false, and_self, Nat.le_refl, fl47_1, fl44_0, encB_fw, Val.fw, decide_true, resE_fw, enc_drop, encA_fw, resB_fw, hrf] <;> rfl) ?_
  refine awp_ret ?_
  refine gives_end (.inl rfl) _ ?_
  simp [ares, aresL, ares1, rd, ev, alook, aput, Tryd.f9]

end Go.Proofs.YtnjlfbefpoecpaaDoor
