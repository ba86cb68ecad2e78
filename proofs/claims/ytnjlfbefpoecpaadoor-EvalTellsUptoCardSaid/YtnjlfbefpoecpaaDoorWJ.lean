/- Terms whose kids are not too many; sizes, depths. -/
import Derived.Test.YtnjlfbefpoecpaaDoorWI
import Derived.Test.YtnjlfbefpoecpaaDoorWF
import Derived.Test.YtnjlfbefpoecpaaDoorWH
namespace Go.Proofs.YtnjlfbefpoecpaaDoor
set_option linter.unusedVariables false
set_option linter.unusedSimpArgs false
set_option maxRecDepth 100000
open Go.RowKit Fw

/-- A term with no more kids than memory holds, within, too. -/
inductive Tm.KOk : Tm → Prop
  | mk (t : Tm) (h2 : t.kids.length * 56 ≤ reachBytes) (h3 : ∀ k ∈ t.kids, Tm.KOk k) : Tm.KOk t
theorem Tm.Ok.k {t : Tm} (h : t.Ok) : t.KOk := by
  induction h with
  | mk t h1 h2 h3 ih => exact .mk t h2 ih
theorem kok_zero : zeroT.KOk := .mk _ (by show 0 * 56 ≤ reachBytes; exact Nat.zero_le _) (fun k h => by cases h)
theorem Tm.KOk.kids {t : Tm} (h : t.KOk) : ∀ k ∈ t.kids, k.KOk := by cases h; assumption
theorem Tm.KOk.kid {t : Tm} (h : t.KOk) (i : Nat) : (kid t i).KOk := by
  unfold Go.Proofs.YtnjlfbefpoecpaaDoor.kid
  rw [List.getD_eq_getElem?_getD]
  cases hk : t.kids[i]? with
  | none => exact kok_zero
  | some k => exact h.kids k (List.mem_of_getElem? hk)
/-- A value whose terms are so. -/
inductive OV : Val → Prop
  | mk (v : Val) (h2 : v.t.KOk) (h3 : ∀ b ∈ v.env, OV b.v) : OV v
def OE (env : List Bd) : Prop := ∀ b ∈ env, OV b.v
theorem OV.tm {v : Val} (h : OV v) : v.t.KOk := by cases h; assumption
theorem OV.oe {v : Val} (h : OV v) : OE v.env := by cases h; assumption
theorem ov_zero : OV zeroV := .mk _ kok_zero (fun b h => by cases h)
theorem ov_whole (n : Int) : OV (wholeV n) := .mk _ kok_zero (fun b h => by cases h)
theorem ov_fun {nm : List UInt8} {t : Tm} {env : List Bd} (ht : t.KOk) (he : OE env) : OV (funV nm t env) := .mk _ ht he
theorem OE.bind {env : List Bd} (h : OE env) (nm : List UInt8) {v : Val} (hv : OV v) : OE (env ++ [.mk nm v]) := fun b hb => by
  rcases List.mem_append.1 hb with hb | hb
  · exact h b hb
  · simp only [List.mem_singleton] at hb
    subst hb; exact hv
theorem OE.look {env : List Bd} (h : OE env) (nm : List UInt8) : OV ((lookV env nm).getD zeroV) := by
  unfold lookV
  cases hf : env.reverse.find? fun b => decide (b.name = nm) with
  | none => exact ov_zero
  | some b => exact h b (by have := List.mem_of_find?_eq_some hf; simpa using this)

/-- A runner that keeps to such. -/
def Ov (rn : Runner) : Prop := ∀ t env c f, t.KOk → OE env → OV (rn t env c f).v
section
variable {rn : Runner}
theorem bothR_ov (h : Ov rn) (t : Tm) {a b : Val} (c : List Sl) (f : Int) (ha : OV a) (hb : OV b) : OV (bothR rn t a b c f).v := by
  unfold bothR
  split
  · split
    · exact h _ _ _ _ ha.tm (ha.oe.bind _ hb)
    · exact ov_zero
  · split
    · split
      · exact ov_whole _
      · exact ov_zero
    · split
      · exact ov_whole _
      · exact ov_zero
theorem behindR_ov (h : Ov rn) {t : Tm} {env : List Bd} {a : Val} (c : List Sl) (f : Int) (ht : t.KOk) (he : OE env) (ha : OV a) : OV (behindR rn t env a c f).v := by
  unfold behindR
  split
  · exact h _ _ _ _ (ht.kid 1) (he.bind _ ha)
  · split
    · exact h _ _ _ _ (ht.kid 1) he
    · split
      · split
        · split
          · exact h _ _ _ _ (ht.kid 2) he
          · exact h _ _ _ _ (ht.kid 1) he
        · exact ov_zero
      · split
        · split
          · exact ha
          · exact ov_zero
        · split
          · split
            · exact ov_whole _
            · exact ov_zero
          · have hb := h (kid t 1) env c f (ht.kid 1) he
            dsimp only
            split
            · exact bothR_ov h t _ _ ha hb
            · exact hb
theorem loopR_ov (h : Ov rn) {t : Tm} {env : List Bd} (c : List Sl) (f : Int) (ht : t.KOk) (he : OE env) : OV (loopR rn t env c f).v := by
  unfold loopR
  have ha := h (kid t 0) env c f (ht.kid 0) he
  dsimp only
  split
  · split
    · split
      · exact ov_whole _
      · split
        · exact h _ _ _ _ ht he
        · exact h _ _ _ _ (ht.kid 1) he
    · exact ov_zero
  · exact ha
theorem stepR_ov (h : Ov rn) {t : Tm} {env : List Bd} (c : List Sl) (f : Int) (ht : t.KOk) (he : OE env) : OV (stepR rn t env c f).v := by
  unfold stepR
  split
  · exact ov_whole _
  · split
    · split
      · exact he.look _
      · exact ov_zero
    · split
      · exact ov_fun (ht.kid 0) he
      · split
        · exact loopR_ov h _ _ ht he
        · have ha := h (kid t 0) env c f (ht.kid 0) he
          dsimp only
          split
          · split
            · exact h _ _ _ _ (ht.kid 1) (he.bind _ ha)
            · exact ha
          · split
            · exact behindR_ov h _ _ ht he ha
            · exact ha
end
theorem run_ov (n : Nat) : Ov (run n) := by
  induction n with
  | zero => exact fun _ _ _ _ _ _ => ov_zero
  | succ n ih =>
    intro t env c f ht he
    by_cases h0 : f ≤ 0
    · rw [run_spent h0]; exact ov_zero
    · simp only [run, if_neg h0]
      split
      · exact stepR_ov ih _ _ ht he
      · exact ov_zero

/-- chancellaw18.refTerm, of terms whose kids are not too many -/
theorem c24k (Γ : Nat → PV) : ∀ a : Tm, a.KOk → Gives Tryd.prog Γ 24 [.agg a.enc] (.agg a.enc) := by
  suffices ∀ n, ∀ a : Tm, SizeOf.sizeOf a < n → a.KOk → Gives Tryd.prog Γ 24 [.agg a.enc] (.agg a.enc) from fun a => this _ a (Nat.lt_succ_self _)
  intro n
  induction n with
  | zero => intro a ha; omega
  | succ n ih =>
  intro a ha hok
  obtain ⟨_, hk2, hk3⟩ := hok
  refine fn_of_awp Tryd.func24 rfl (by simp [Tryd.f24]) (by simp only [fw0, fw1, fw2, fw3, fw4, fw5, fw6, fw7, ↓reduceIte, Nat.reduceAdd, Nat.reduceMul, Nat.reduceEqDiff, Nat.reduceLT, Nat.reduceLeDiff, reduceCtorEq, Bool.false_eq_true, Bool.not_true, Bool.not_false, and_self, Nat.le_refl, Tm.fw]) fun H => ?_
  refine awp_seq ?_
  -- region 0
  refine awp_run rfl (by simp only [fw0, fw1, fw2, fw3, fw4, fw5, fw6, fw7, ↓reduceIte, Nat.reduceAdd, Nat.reduceMul, Nat.reduceEqDiff, Nat.reduceLT, Nat.reduceLeDiff, reduceCtorEq, Bool.false_eq_true, Bool.not_true, Bool.not_false, and_self, Nat.le_refl, ti67] <;> rfl) ?_
  refine awp_seq ?_
  -- region 1
  refine awp_run rfl (by simp only [fw0, fw1, fw2, fw3, fw4, fw5, fw6, fw7, ↓reduceIte, Nat.reduceAdd, Nat.reduceMul, Nat.reduceEqDiff, Nat.reduceLT, Nat.reduceLeDiff, reduceCtorEq, Bool.false_eq_true, Bool.not_true, Bool.not_false, and_self, Nat.le_refl, fl29_0, ti3, fl29_1, ti9, fl29_2, ti2, ti67, pl67, Tm.fw] <;> rfl) ?_
  refine awp_seq ?_
  refine awp_seq ?_
  -- region 2
  refine awp_run rfl (by simp only [fw0, fw1, fw2, fw3, fw4, fw5, fw6, fw7, ↓reduceIte, Nat.reduceAdd, Nat.reduceMul, Nat.reduceEqDiff, Nat.reduceLT, Nat.reduceLeDiff, reduceCtorEq, Bool.false_eq_true, Bool.not_true, Bool.not_false, and_self, Nat.le_refl] <;> rfl) ?_
  refine awp_told (told_adoptBox (H.length + 2) 3 4 (by decide) (by simp only [fw0, fw1, fw2, fw3, fw4, fw5, fw6, fw7, ↓reduceIte, Nat.reduceAdd, Nat.reduceMul, Nat.reduceEqDiff, Nat.reduceLT, Nat.reduceLeDiff, reduceCtorEq, Bool.false_eq_true, Bool.not_true, Bool.not_false, and_self, Nat.le_refl] <;> rfl) rfl) ?_
  refine awp_block ?_
  refine awp_for [1, 2, 3, 4] (fun i : Nat => [.ptr H.length 0, .ptr (H.length + 1) 0, .ptr (H.length + 2) 0, .int .i64 (i : Int)])
    (fun i => H ++ [.box a.enc, .box [.int .i64 0, .str [], .int .i64 0, .vec [] true], .box [.int .i64 a.kind, .str a.name, .int .i64 a.n, .row (H.length + 3) 0 i 4], .row 4 ((a.kids.take i).map Tm.enc).flatten])
    (fun i => a.kids.length - i) (fun i => i ≤ a.kids.length) 0 rfl (by simp only [fw0, fw1, fw2, fw3, fw4, fw5, fw6, fw7, ↓reduceIte, Nat.reduceAdd, Nat.reduceMul, Nat.reduceEqDiff, Nat.reduceLT, Nat.reduceLeDiff, reduceCtorEq, Bool.false_eq_true, Bool.not_true, Bool.not_false, and_self, Nat.le_refl] <;> rfl) (Nat.zero_le _) fun i hi => ?_
  have hti : (a.kids.take i).length = i := by simp; omega
  refine awp_seq ?_
  refine awp_seq ?_
  -- region 3
  refine awp_run rfl (by simp only [fw0, fw1, fw2, fw3, fw4, fw5, fw6, fw7, ↓reduceIte, Nat.reduceAdd, Nat.reduceMul, Nat.reduceEqDiff, Nat.reduceLT, Nat.reduceLeDiff, reduceCtorEq, Bool.false_eq_true, Bool.not_true, Bool.not_false, and_self, Nat.le_refl, fl29_3, ti27, un27, Tm.fw, List.length_map] <;> rfl) ?_
  refine awp_vlen 14 rfl fun hlen => ?_
  rw [List.length_map] at hlen
  refine awp_cond (by simp only [fw0, fw1, fw2, fw3, fw4, fw5, fw6, fw7, ↓reduceIte, Nat.reduceAdd, Nat.reduceMul, Nat.reduceEqDiff, Nat.reduceLT, Nat.reduceLeDiff, reduceCtorEq, Bool.false_eq_true, Bool.not_true, Bool.not_false, and_self, Nat.le_refl] <;> rfl) ?_
  by_cases hc : (i : Int) < a.kids.length
  rotate_left
  · simp only [hc, decide_false, Bool.false_eq_true, ↓reduceIte]
    refine awp_exit ?_
    have hi' : i = a.kids.length := by omega
    refine awp_told (told_freezeAt H _ 3 (C := ((a.kids.take i).map Tm.enc).flatten) rfl (flat_bd (fun t => by simp only [Tm.fw]) _)) ?_
    have hl : (((a.kids.take i).map Tm.enc).flatten).length = i * 4 := by rw [flat_len Tm.enc_len, hti]
    have hch : chunk 4 i (((a.kids.take i).map Tm.enc).flatten) = (a.kids.take i).map Tm.enc := by
      have := flat_chunk Tm.enc_len (a.kids.take i)
      rwa [hti] at this
    refine awp_seq (awp_run rfl (by simp only [fw0, fw1, fw2, fw3, fw4, fw5, fw6, fw7, ↓reduceIte, Nat.reduceAdd, Nat.reduceMul, Nat.reduceEqDiff, Nat.reduceLT, Nat.reduceLeDiff, reduceCtorEq, Bool.false_eq_true, Bool.not_true, Bool.not_false, and_self, Nat.le_refl, ti67, hl, hch] <;> rfl) (awp_ret ?_))
    refine gives_end (.inl rfl) _ ?_
    rw [Tm.enc_eq]
    simp only [fw0, fw1, fw2, fw3, fw4, fw5, fw6, fw7, ↓reduceIte, Nat.reduceAdd, Nat.reduceMul, Nat.reduceEqDiff, Nat.reduceLT, Nat.reduceLeDiff, reduceCtorEq, Bool.false_eq_true, Bool.not_true, Bool.not_false, and_self, Nat.le_refl, ares, aresL, ares1, Tryd.f24, ti67, hi', List.take_length]
  simp only [hc, decide_true, ↓reduceIte]
  refine awp_skip ?_
  have hia : i < a.kids.length := by omega
  have ga : a.kids[i]? = some a.kids[i] := List.getElem?_eq_getElem hia
  refine awp_seq ?_
  refine awp_block ?_
  -- region 5 drawn
  refine awp_drawn [0, 1, 0, 1, 0, 0, 1, 0, 0, 2, 0, 2] [0, 1, 0, 4, 0, 28, 60, 124, 252, 511, 1023, 2047] mixed rfl (by kernel_rfl) ?_
  refine dops_run 7 (by simp only [fw0, fw1, fw2, fw3, fw4, fw5, fw6, fw7, ↓reduceIte, Nat.reduceAdd, Nat.reduceMul, Nat.reduceEqDiff, Nat.reduceLT, Nat.reduceLeDiff, reduceCtorEq, Bool.false_eq_true, Bool.not_true, Bool.not_false, and_self, Nat.le_refl, fl67_3, ti65, fl29_3, ti27, el27, ti29, Tm.fw, List.getElem?_map, ga, Option.map_some, Int.natCast_nonneg] <;> rfl) ?_
  refine dops_fn rfl rfl rfl rfl en24 (ih _ (by have := Tm.kids_lt (List.getElem_mem hia); omega) (hk3 _ (List.getElem_mem hia))) ?_
  refine dops_run 1 (by simp only [fw0, fw1, fw2, fw3, fw4, fw5, fw6, fw7, ↓reduceIte, Nat.reduceAdd, Nat.reduceMul, Nat.reduceEqDiff, Nat.reduceLT, Nat.reduceLeDiff, reduceCtorEq, Bool.false_eq_true, Bool.not_true, Bool.not_false, and_self, Nat.le_refl, un65, ti67, Tm.fw] <;> rfl) ?_
  refine dops_appendR rfl rfl rfl un65 ti67 un65 (.inl ⟨_, rfl⟩) rfl (by simp only [fw0, fw1, fw2, fw3, fw4, fw5, fw6, fw7, ↓reduceIte, Nat.reduceAdd, Nat.reduceMul, Nat.reduceEqDiff, Nat.reduceLT, Nat.reduceLeDiff, reduceCtorEq, Bool.false_eq_true, Bool.not_true, Bool.not_false, and_self, Nat.le_refl] <;> rfl) (by rw [flat_len Tm.enc_len, hti]; exact (Nat.zero_add _).symm) rfl
    (fun es f h e he => by
      simp only [fw0, fw1, fw2, fw3, fw4, fw5, fw6, fw7, ↓reduceIte, Nat.reduceAdd, Nat.reduceMul, Nat.reduceEqDiff, Nat.reduceLT, Nat.reduceLeDiff, reduceCtorEq, Bool.false_eq_true, Bool.not_true, Bool.not_false, and_self, Nat.le_refl, PV.vec.injEq] at h
      obtain ⟨rfl, rfl⟩ := h
      simp only [List.mem_singleton] at he
      subst he; exact Tm.enc_len _) rfl (by unfold reachBytes at hk2; show (i + 1) * 56 ≤ _; omega) (by show i + 1 ≤ _; omega) ?_
  refine dops_run 2 (by simp only [fw0, fw1, fw2, fw3, fw4, fw5, fw6, fw7, ↓reduceIte, Nat.reduceAdd, Nat.reduceMul, Nat.reduceEqDiff, Nat.reduceLT, Nat.reduceLeDiff, reduceCtorEq, Bool.false_eq_true, Bool.not_true, Bool.not_false, and_self, Nat.le_refl, fl67_3, ti65] <;> rfl) ?_
  refine dops_end ?_
  -- region 4
  refine awp_run rfl (by simp only [fw0, fw1, fw2, fw3, fw4, fw5, fw6, fw7, ↓reduceIte, Nat.reduceAdd, Nat.reduceMul, Nat.reduceEqDiff, Nat.reduceLT, Nat.reduceLeDiff, reduceCtorEq, Bool.false_eq_true, Bool.not_true, Bool.not_false, and_self, Nat.le_refl] <;> rfl) ?_
  refine ⟨i + 1, by omega, by omega, by rw [wrapS i (by omega)]; rfl, ?_, rfl⟩
  simp only [flatten_enc Tm.enc _ _ _ ga, List.flatten_cons, List.flatten_nil, List.append_nil]


theorem os_max {P : Program} {Γ : Nat → PV} {A : List (Nat × PV)} {H : List Blk} {o : Oper} {K : PV → List Blk → Prop} {x y : Operand} {ts : Array TypeId} {k : IntKind} {m n : Int} (ho : o.op = .call { callee := .builtin .max, args := #[x, y], argTypes := ts }) (hx : ev Γ A x = .int k m) (hy : ev Γ A y = .int k n)
    (hk : K (.int k (if m < n then n else m)) H) : OStep P Γ o A H K :=
  ostep_pure (by simp [ho]) _ hk fun w0 G w N a hs ha => by
    have h1 := ha.ev hs.glob x
    have h2 := ha.ev hs.glob y
    rw [hx] at h1
    rw [hy] at h2
    refine ⟨_, ?_, .int _ _ _⟩
    simp [execOp, ho, resolve, invoke, builtin, Builtin.max_, Builtin.max2, h1.int_inv, h2.int_inv]

theorem fold_take {X : Type} (l : List X) (g : Int → X → Int) (z : Int) {i : Nat} {x : X} (h : l[i]? = some x) : (l.take (i + 1)).foldl g z = g ((l.take i).foldl g z) x := by
  rw [List.take_add_one, h, List.foldl_append]; rfl

/-- term.Size -/
theorem c20 (Γ : Nat → PV) : ∀ a : Tm, ∃ z, Gives Tryd.prog Γ 20 [.agg a.enc] (.int .i64 z) := by
  suffices ∀ n, ∀ a : Tm, SizeOf.sizeOf a < n → ∃ z, Gives Tryd.prog Γ 20 [.agg a.enc] (.int .i64 z) from fun a => this _ a (Nat.lt_succ_self _)
  intro n
  induction n with
  | zero => intro a ha; omega
  | succ n ih =>
  intro a ha
  classical
  obtain ⟨g, hg⟩ : ∃ g : Tm → Int, ∀ k ∈ a.kids, Gives Tryd.prog Γ 20 [.agg k.enc] (.int .i64 (g k)) :=
    ⟨fun k => if h : ∃ z, Gives Tryd.prog Γ 20 [.agg k.enc] (.int .i64 z) then h.choose else 0, fun k hk => by
      have h : ∃ z, Gives Tryd.prog Γ 20 [.agg k.enc] (.int .i64 z) := ih k (by have := Tm.kids_lt hk; omega)
      dsimp only
      rw [dif_pos h]
      exact h.choose_spec⟩
  refine ⟨a.kids.foldl (fun z k => IntKind.i64.wrap (z + g k)) 1, ?_⟩
  refine fn_of_awp Tryd.func20 rfl (by simp [Tryd.f20]) rfl fun H => ?_
  refine awp_seq ?_
  -- region 0
  refine awp_run rfl (by simp only [fw0, fw1, fw2, fw3, fw4, fw5, fw6, fw7, ↓reduceIte, Nat.reduceAdd, Nat.reduceMul, Nat.reduceEqDiff, Nat.reduceLT, Nat.reduceLeDiff, reduceCtorEq, Bool.false_eq_true, Bool.not_true, Bool.not_false, and_self, Nat.le_refl, Tm.fw] <;> rfl) ?_
  refine awp_seq ?_
  -- region 1
  refine awp_run rfl (by simp only [fw0, fw1, fw2, fw3, fw4, fw5, fw6, fw7, ↓reduceIte, Nat.reduceAdd, Nat.reduceMul, Nat.reduceEqDiff, Nat.reduceLT, Nat.reduceLeDiff, reduceCtorEq, Bool.false_eq_true, Bool.not_true, Bool.not_false, and_self, Nat.le_refl] <;> rfl) ?_
  refine awp_seq ?_
  refine awp_seq ?_
  -- region 2
  refine awp_run rfl (by simp only [fw0, fw1, fw2, fw3, fw4, fw5, fw6, fw7, ↓reduceIte, Nat.reduceAdd, Nat.reduceMul, Nat.reduceEqDiff, Nat.reduceLT, Nat.reduceLeDiff, reduceCtorEq, Bool.false_eq_true, Bool.not_true, Bool.not_false, and_self, Nat.le_refl, fl29_3, ti27, un27, Tm.fw, List.length_map] <;> rfl) ?_
  refine awp_vlen 7 rfl fun hlen => ?_
  rw [List.length_map] at hlen
  refine awp_bd fun hbd => ?_
  refine awp_block ?_
  refine awp_forG [3, 7, 8, 9] (fun i : Nat => [.int .i64 ((a.kids.take i).foldl (fun z k => IntKind.i64.wrap (z + g k)) 1), .vec (a.kids.map Tm.enc) false, .int .i64 a.kids.length, .int .i64 i]) (fun _ => H ++ [.box a.enc]) (fun i => a.kids.length - i) (fun i => i ≤ a.kids.length) 0 (by simp [alook, aput, ev]) rfl (Nat.zero_le _) (fun i _ => ⟨hbd, by simp [PV.bdL, PV.bd]⟩) (fun i _ b hb => by cases hb) fun i hi => ?_
  refine awp_seq ?_
  -- region 3
  refine awp_run rfl (by simp only [fw0, fw1, fw2, fw3, fw4, fw5, fw6, fw7, ↓reduceIte, Nat.reduceAdd, Nat.reduceMul, Nat.reduceEqDiff, Nat.reduceLT, Nat.reduceLeDiff, reduceCtorEq, Bool.false_eq_true, Bool.not_true, Bool.not_false, and_self, Nat.le_refl] <;> rfl) ?_
  refine awp_seq ?_
  refine awp_cond (by simp only [fw0, fw1, fw2, fw3, fw4, fw5, fw6, fw7, ↓reduceIte, Nat.reduceAdd, Nat.reduceMul, Nat.reduceEqDiff, Nat.reduceLT, Nat.reduceLeDiff, reduceCtorEq, Bool.false_eq_true, Bool.not_true, Bool.not_false, and_self, Nat.le_refl] <;> rfl) ?_
  by_cases hc : (i : Int) < a.kids.length
  · simp only [hc, decide_true, ↓reduceIte]
    refine awp_skip ?_
    have hil : i < a.kids.length := by omega
    have gi : a.kids[i]? = some a.kids[i] := List.getElem?_eq_getElem hil
    refine awp_seq ?_
    refine awp_block ?_
    refine awp_seq ?_
    -- region 4
    refine awp_run rfl (by simp only [fw0, fw1, fw2, fw3, fw4, fw5, fw6, fw7, ↓reduceIte, Nat.reduceAdd, Nat.reduceMul, Nat.reduceEqDiff, Nat.reduceLT, Nat.reduceLeDiff, reduceCtorEq, Bool.false_eq_true, Bool.not_true, Bool.not_false, and_self, Nat.le_refl, el27, ti29, Tm.fw, List.getElem?_map, gi, Option.map_some, Int.natCast_nonneg] <;> rfl) ?_
    -- region 5
    refine awp_region rfl ?_
    refine aops_run 2 (by simp only [fw0, fw1, fw2, fw3, fw4, fw5, fw6, fw7, ↓reduceIte, Nat.reduceAdd, Nat.reduceMul, Nat.reduceEqDiff, Nat.reduceLT, Nat.reduceLeDiff, reduceCtorEq, Bool.false_eq_true, Bool.not_true, Bool.not_false, and_self, Nat.le_refl, ti29, Tm.fw] <;> rfl) ?_
    refine aops_fn rfl rfl rfl en20 (hg a.kids[i] (List.getElem_mem hil)) ?_
    refine aops_run 2 (by simp only [fw0, fw1, fw2, fw3, fw4, fw5, fw6, fw7, ↓reduceIte, Nat.reduceAdd, Nat.reduceMul, Nat.reduceEqDiff, Nat.reduceLT, Nat.reduceLeDiff, reduceCtorEq, Bool.false_eq_true, Bool.not_true, Bool.not_false, and_self, Nat.le_refl] <;> rfl) ?_
    -- region 6
    refine awp_run rfl (by simp only [fw0, fw1, fw2, fw3, fw4, fw5, fw6, fw7, ↓reduceIte, Nat.reduceAdd, Nat.reduceMul, Nat.reduceEqDiff, Nat.reduceLT, Nat.reduceLeDiff, reduceCtorEq, Bool.false_eq_true, Bool.not_true, Bool.not_false, and_self, Nat.le_refl, wrapS i (by omega)] <;> rfl) ?_
    refine ⟨i + 1, [.box a.kids[i].enc], by omega, by omega, by rw [fold_take _ _ _ gi]; rfl, by simp, rfl, Nat.le_refl _⟩
  simp only [hc, decide_false, Bool.false_eq_true, ↓reduceIte]
  refine awp_exit ?_
  have hie : i = a.kids.length := by omega
  subst hie
  rw [List.take_length]
  simp only [Post.block, Post.then, ↓reduceIte]
  refine awp_seq ?_
  -- region 7
  refine awp_run rfl (by simp only [fw0, fw1, fw2, fw3, fw4, fw5, fw6, fw7, ↓reduceIte, Nat.reduceAdd, Nat.reduceMul, Nat.reduceEqDiff, Nat.reduceLT, Nat.reduceLeDiff, reduceCtorEq, Bool.false_eq_true, Bool.not_true, Bool.not_false, and_self, Nat.le_refl] <;> rfl) ?_
  refine awp_ret ?_
  exact gives_end (.inl rfl) _ rfl

/-- term.Depth -/
theorem c21 (Γ : Nat → PV) : ∀ a : Tm, ∃ z, Gives Tryd.prog Γ 21 [.agg a.enc] (.int .i64 z) := by
  suffices ∀ n, ∀ a : Tm, SizeOf.sizeOf a < n → ∃ z, Gives Tryd.prog Γ 21 [.agg a.enc] (.int .i64 z) from fun a => this _ a (Nat.lt_succ_self _)
  intro n
  induction n with
  | zero => intro a ha; omega
  | succ n ih =>
  intro a ha
  classical
  obtain ⟨g, hg⟩ : ∃ g : Tm → Int, ∀ k ∈ a.kids, Gives Tryd.prog Γ 21 [.agg k.enc] (.int .i64 (g k)) :=
    ⟨fun k => if h : ∃ z, Gives Tryd.prog Γ 21 [.agg k.enc] (.int .i64 z) then h.choose else 0, fun k hk => by
      have h : ∃ z, Gives Tryd.prog Γ 21 [.agg k.enc] (.int .i64 z) := ih k (by have := Tm.kids_lt hk; omega)
      dsimp only
      rw [dif_pos h]
      exact h.choose_spec⟩
  refine ⟨IntKind.i64.wrap (a.kids.foldl (fun z k => if z < g k then g k else z) 0 + 1), ?_⟩
  refine fn_of_awp Tryd.func21 rfl (by simp [Tryd.f21]) rfl fun H => ?_
  refine awp_seq ?_
  -- region 0
  refine awp_run rfl (by simp only [fw0, fw1, fw2, fw3, fw4, fw5, fw6, fw7, ↓reduceIte, Nat.reduceAdd, Nat.reduceMul, Nat.reduceEqDiff, Nat.reduceLT, Nat.reduceLeDiff, reduceCtorEq, Bool.false_eq_true, Bool.not_true, Bool.not_false, and_self, Nat.le_refl, Tm.fw] <;> rfl) ?_
  refine awp_seq ?_
  -- region 1
  refine awp_run rfl (by simp only [fw0, fw1, fw2, fw3, fw4, fw5, fw6, fw7, ↓reduceIte, Nat.reduceAdd, Nat.reduceMul, Nat.reduceEqDiff, Nat.reduceLT, Nat.reduceLeDiff, reduceCtorEq, Bool.false_eq_true, Bool.not_true, Bool.not_false, and_self, Nat.le_refl] <;> rfl) ?_
  refine awp_seq ?_
  refine awp_seq ?_
  -- region 2
  refine awp_run rfl (by simp only [fw0, fw1, fw2, fw3, fw4, fw5, fw6, fw7, ↓reduceIte, Nat.reduceAdd, Nat.reduceMul, Nat.reduceEqDiff, Nat.reduceLT, Nat.reduceLeDiff, reduceCtorEq, Bool.false_eq_true, Bool.not_true, Bool.not_false, and_self, Nat.le_refl, fl29_3, ti27, un27, Tm.fw, List.length_map] <;> rfl) ?_
  refine awp_vlen 7 rfl fun hlen => ?_
  rw [List.length_map] at hlen
  refine awp_bd fun hbd => ?_
  refine awp_block ?_
  refine awp_forG [3, 7, 8, 9] (fun i : Nat => [.int .i64 ((a.kids.take i).foldl (fun z k => if z < g k then g k else z) 0), .vec (a.kids.map Tm.enc) false, .int .i64 a.kids.length, .int .i64 i]) (fun _ => H ++ [.box a.enc]) (fun i => a.kids.length - i) (fun i => i ≤ a.kids.length) 0 (by simp [alook, aput, ev]) rfl (Nat.zero_le _) (fun i _ => ⟨hbd, by simp [PV.bdL, PV.bd]⟩) (fun i _ b hb => by cases hb) fun i hi => ?_
  refine awp_seq ?_
  -- region 3
  refine awp_run rfl (by simp only [fw0, fw1, fw2, fw3, fw4, fw5, fw6, fw7, ↓reduceIte, Nat.reduceAdd, Nat.reduceMul, Nat.reduceEqDiff, Nat.reduceLT, Nat.reduceLeDiff, reduceCtorEq, Bool.false_eq_true, Bool.not_true, Bool.not_false, and_self, Nat.le_refl] <;> rfl) ?_
  refine awp_seq ?_
  refine awp_cond (by simp only [fw0, fw1, fw2, fw3, fw4, fw5, fw6, fw7, ↓reduceIte, Nat.reduceAdd, Nat.reduceMul, Nat.reduceEqDiff, Nat.reduceLT, Nat.reduceLeDiff, reduceCtorEq, Bool.false_eq_true, Bool.not_true, Bool.not_false, and_self, Nat.le_refl] <;> rfl) ?_
  by_cases hc : (i : Int) < a.kids.length
  · simp only [hc, decide_true, ↓reduceIte]
    refine awp_skip ?_
    have hil : i < a.kids.length := by omega
    have gi : a.kids[i]? = some a.kids[i] := List.getElem?_eq_getElem hil
    refine awp_seq ?_
    refine awp_block ?_
    refine awp_seq ?_
    -- region 4
    refine awp_run rfl (by simp only [fw0, fw1, fw2, fw3, fw4, fw5, fw6, fw7, ↓reduceIte, Nat.reduceAdd, Nat.reduceMul, Nat.reduceEqDiff, Nat.reduceLT, Nat.reduceLeDiff, reduceCtorEq, Bool.false_eq_true, Bool.not_true, Bool.not_false, and_self, Nat.le_refl, el27, ti29, Tm.fw, List.getElem?_map, gi, Option.map_some, Int.natCast_nonneg] <;> rfl) ?_
    -- region 5
    refine awp_region rfl ?_
    refine aops_run 2 (by simp only [fw0, fw1, fw2, fw3, fw4, fw5, fw6, fw7, ↓reduceIte, Nat.reduceAdd, Nat.reduceMul, Nat.reduceEqDiff, Nat.reduceLT, Nat.reduceLeDiff, reduceCtorEq, Bool.false_eq_true, Bool.not_true, Bool.not_false, and_self, Nat.le_refl, ti29, Tm.fw] <;> rfl) ?_
    refine aops_fn rfl rfl rfl en21 (hg a.kids[i] (List.getElem_mem hil)) ?_
    refine aops_one rfl (os_max rfl rfl rfl ?_)
    refine aops_run 1 (by simp only [fw0, fw1, fw2, fw3, fw4, fw5, fw6, fw7, ↓reduceIte, Nat.reduceAdd, Nat.reduceMul, Nat.reduceEqDiff, Nat.reduceLT, Nat.reduceLeDiff, reduceCtorEq, Bool.false_eq_true, Bool.not_true, Bool.not_false, and_self, Nat.le_refl] <;> rfl) ?_
    -- region 6
    refine awp_run rfl (by simp only [fw0, fw1, fw2, fw3, fw4, fw5, fw6, fw7, ↓reduceIte, Nat.reduceAdd, Nat.reduceMul, Nat.reduceEqDiff, Nat.reduceLT, Nat.reduceLeDiff, reduceCtorEq, Bool.false_eq_true, Bool.not_true, Bool.not_false, and_self, Nat.le_refl, wrapS i (by omega)] <;> rfl) ?_
    refine ⟨i + 1, [.box a.kids[i].enc], by omega, by omega, by rw [fold_take _ _ _ gi]; rfl, by simp, rfl, Nat.le_refl _⟩
  simp only [hc, decide_false, Bool.false_eq_true, ↓reduceIte]
  refine awp_exit ?_
  have hie : i = a.kids.length := by omega
  subst hie
  rw [List.take_length]
  simp only [Post.block, Post.then, ↓reduceIte]
  refine awp_seq ?_
  -- region 7
  refine awp_run rfl (by simp only [fw0, fw1, fw2, fw3, fw4, fw5, fw6, fw7, ↓reduceIte, Nat.reduceAdd, Nat.reduceMul, Nat.reduceEqDiff, Nat.reduceLT, Nat.reduceLeDiff, reduceCtorEq, Bool.false_eq_true, Bool.not_true, Bool.not_false, and_self, Nat.le_refl] <;> rfl) ?_
  refine awp_ret ?_
  exact gives_end (.inl rfl) _ rfl

/-- prog.Size -/
theorem c41 (Γ : Nat → PV) (p : Pg) : ∃ z, Gives Tryd.prog Γ 41 [.agg p.enc] (.int .i64 z) := by
  obtain ⟨g, hg⟩ : ∃ g : Tm → Int, ∀ k, Gives Tryd.prog Γ 20 [.agg k.enc] (.int .i64 (g k)) := ⟨fun k => (c20 Γ k).choose, fun k => (c20 Γ k).choose_spec⟩
  refine ⟨p.defs.foldl (fun z d => IntKind.i64.wrap (z + g d.t)) (g p.body), ?_⟩
  refine fn_of_awp Tryd.func41 rfl (by simp [Tryd.f41]) rfl fun H => ?_
  refine awp_seq ?_
  -- region 0
  refine awp_run rfl (by simp only [fw0, fw1, fw2, fw3, fw4, fw5, fw6, fw7, ↓reduceIte, Nat.reduceAdd, Nat.reduceMul, Nat.reduceEqDiff, Nat.reduceLT, Nat.reduceLeDiff, reduceCtorEq, Bool.false_eq_true, Bool.not_true, Bool.not_false, and_self, Nat.le_refl, Pg.fw] <;> rfl) ?_
  refine awp_seq ?_
  -- region 1
  refine awp_region rfl ?_
  refine aops_run 2 (by simp only [fw0, fw1, fw2, fw3, fw4, fw5, fw6, fw7, ↓reduceIte, Nat.reduceAdd, Nat.reduceMul, Nat.reduceEqDiff, Nat.reduceLT, Nat.reduceLeDiff, reduceCtorEq, Bool.false_eq_true, Bool.not_true, Bool.not_false, and_self, Nat.le_refl, fl31_3, ti29, Pg.fw, Tm.fw] <;> rfl) ?_
  refine aops_fn rfl rfl rfl en20 (hg p.body) ?_
  refine aops_run 1 (by simp only [fw0, fw1, fw2, fw3, fw4, fw5, fw6, fw7, ↓reduceIte, Nat.reduceAdd, Nat.reduceMul, Nat.reduceEqDiff, Nat.reduceLT, Nat.reduceLeDiff, reduceCtorEq, Bool.false_eq_true, Bool.not_true, Bool.not_false, and_self, Nat.le_refl] <;> rfl) ?_
  refine awp_seq ?_
  refine awp_seq ?_
  -- region 2
  refine awp_run rfl (by simp only [fw0, fw1, fw2, fw3, fw4, fw5, fw6, fw7, ↓reduceIte, Nat.reduceAdd, Nat.reduceMul, Nat.reduceEqDiff, Nat.reduceLT, Nat.reduceLeDiff, reduceCtorEq, Bool.false_eq_true, Bool.not_true, Bool.not_false, and_self, Nat.le_refl, fl31_2, ti26, un26, Pg.fw, List.length_map] <;> rfl) ?_
  refine awp_vlen 10 rfl fun hlen => ?_
  rw [List.length_map] at hlen
  refine awp_bd fun hbd => ?_
  refine awp_block ?_
  refine awp_forG [3, 10, 11, 12] (fun i : Nat => [.int .i64 ((p.defs.take i).foldl (fun z d => IntKind.i64.wrap (z + g d.t)) (g p.body)), .vec (p.defs.map Df.enc) false, .int .i64 p.defs.length, .int .i64 i]) (fun _ => H ++ [.box p.enc]) (fun i => p.defs.length - i) (fun i => i ≤ p.defs.length) 0 (by simp [alook, aput, ev]) rfl (Nat.zero_le _) (fun i _ => ⟨hbd, by simp [PV.bdL, PV.bd]⟩) (fun i _ b hb => by cases hb) fun i hi => ?_
  refine awp_seq ?_
  -- region 3
  refine awp_run rfl (by simp only [fw0, fw1, fw2, fw3, fw4, fw5, fw6, fw7, ↓reduceIte, Nat.reduceAdd, Nat.reduceMul, Nat.reduceEqDiff, Nat.reduceLT, Nat.reduceLeDiff, reduceCtorEq, Bool.false_eq_true, Bool.not_true, Bool.not_false, and_self, Nat.le_refl] <;> rfl) ?_
  refine awp_seq ?_
  refine awp_cond (by simp only [fw0, fw1, fw2, fw3, fw4, fw5, fw6, fw7, ↓reduceIte, Nat.reduceAdd, Nat.reduceMul, Nat.reduceEqDiff, Nat.reduceLT, Nat.reduceLeDiff, reduceCtorEq, Bool.false_eq_true, Bool.not_true, Bool.not_false, and_self, Nat.le_refl] <;> rfl) ?_
  by_cases hc : (i : Int) < p.defs.length
  · simp only [hc, decide_true, ↓reduceIte]
    refine awp_skip ?_
    have hil : i < p.defs.length := by omega
    have gi : p.defs[i]? = some p.defs[i] := List.getElem?_eq_getElem hil
    refine awp_seq ?_
    refine awp_block ?_
    refine awp_seq ?_
    -- region 4
    refine awp_run rfl (by simp only [fw0, fw1, fw2, fw3, fw4, fw5, fw6, fw7, ↓reduceIte, Nat.reduceAdd, Nat.reduceMul, Nat.reduceEqDiff, Nat.reduceLT, Nat.reduceLeDiff, reduceCtorEq, Bool.false_eq_true, Bool.not_true, Bool.not_false, and_self, Nat.le_refl, el26, ti92, Df.fw, List.getElem?_map, gi, Option.map_some, Int.natCast_nonneg] <;> rfl) ?_
    -- region 5
    refine awp_region rfl ?_
    refine aops_run 3 (by simp only [fw0, fw1, fw2, fw3, fw4, fw5, fw6, fw7, ↓reduceIte, Nat.reduceAdd, Nat.reduceMul, Nat.reduceEqDiff, Nat.reduceLT, Nat.reduceLeDiff, reduceCtorEq, Bool.false_eq_true, Bool.not_true, Bool.not_false, and_self, Nat.le_refl, fl92_1, ti29, Df.fw, Tm.fw] <;> rfl) ?_
    refine aops_fn rfl rfl rfl en20 (hg p.defs[i].t) ?_
    refine aops_run 2 (by simp only [fw0, fw1, fw2, fw3, fw4, fw5, fw6, fw7, ↓reduceIte, Nat.reduceAdd, Nat.reduceMul, Nat.reduceEqDiff, Nat.reduceLT, Nat.reduceLeDiff, reduceCtorEq, Bool.false_eq_true, Bool.not_true, Bool.not_false, and_self, Nat.le_refl] <;> rfl) ?_
    -- region 6
    refine awp_run rfl (by simp only [fw0, fw1, fw2, fw3, fw4, fw5, fw6, fw7, ↓reduceIte, Nat.reduceAdd, Nat.reduceMul, Nat.reduceEqDiff, Nat.reduceLT, Nat.reduceLeDiff, reduceCtorEq, Bool.false_eq_true, Bool.not_true, Bool.not_false, and_self, Nat.le_refl, wrapS i (by omega)] <;> rfl) ?_
    refine ⟨i + 1, [.box p.defs[i].enc], by omega, by omega, by rw [fold_take _ _ _ gi]; rfl, by simp, rfl, Nat.le_refl _⟩
  simp only [hc, decide_false, Bool.false_eq_true, ↓reduceIte]
  refine awp_exit ?_
  have hie : i = p.defs.length := by omega
  subst hie
  rw [List.take_length]
  simp only [Post.block, Post.then, ↓reduceIte]
  refine awp_seq ?_
  -- region 7
  refine awp_run rfl (by simp only [fw0, fw1, fw2, fw3, fw4, fw5, fw6, fw7, ↓reduceIte, Nat.reduceAdd, Nat.reduceMul, Nat.reduceEqDiff, Nat.reduceLT, Nat.reduceLeDiff, reduceCtorEq, Bool.false_eq_true, Bool.not_true, Bool.not_false, and_self, Nat.le_refl] <;> rfl) ?_
  refine awp_ret ?_
  exact gives_end (.inl rfl) _ rfl

end Go.Proofs.YtnjlfbefpoecpaaDoor

/- The document's run: programs of a few definitions; programs as the document's. -/
namespace Go.Proofs.YtnjlfbefpoecpaaDoor
set_option linter.unusedVariables false
set_option linter.unusedSimpArgs false
set_option maxRecDepth 100000
open Go.RowKit Fw

/-- A program of a few definitions; z: how many terms it has. -/
def cutP (p : Pg) : Pg := ⟨p.ins.take 6, p.cells.take 6, p.defs.take 3, p.body⟩
def fewF (p : Pg) (z : Int) : Pg := if 50 < z then { cutP p with defs := [], body := numT 0 } else cutP p

theorem take_map {X : Type} (l : List X) (enc : X → List PV) (k : Nat) : ((l.map enc).drop 0).take (min l.length k - 0) = (l.take k).map enc := by
  rw [List.drop_zero, Nat.sub_zero, List.map_take]
  rcases Nat.le_total l.length k with h | h
  · rw [Nat.min_eq_left h, List.take_of_length_le (by simp), List.take_of_length_le (by simpa using h)]
  · rw [Nat.min_eq_right h]

/-- few -/
theorem c19 (Γ : Nat → PV) (p : Pg) : ∃ z, Gives Tryd.prog Γ 19 [.agg p.enc] (.agg (fewF p z).enc) := by
  obtain ⟨z, hz⟩ := c41 Γ (cutP p)
  refine ⟨z, ?_⟩
  refine fn_of_awp Tryd.func19 rfl (by simp [Tryd.f19]) (by simp [PV.plain, PV.bd, Pg.fw]) fun H => ?_
  refine awp_seq ?_
  -- region 0
  refine awp_run rfl (by simp only [fw0, fw1, fw2, fw3, fw4, fw5, fw6, fw7, ↓reduceIte, Nat.reduceAdd, Nat.reduceMul, Nat.reduceEqDiff, Nat.reduceLT, Nat.reduceLeDiff, reduceCtorEq, Bool.false_eq_true, Bool.not_true, Bool.not_false, and_self, Nat.le_refl, ti31, Pg.fw] <;> rfl) ?_
  refine awp_seq ?_
  -- region 1
  refine awp_region rfl ?_
  refine aops_run 5 (by simp only [fw0, fw1, fw2, fw3, fw4, fw5, fw6, fw7, ↓reduceIte, Nat.reduceAdd, Nat.reduceMul, Nat.reduceEqDiff, Nat.reduceLT, Nat.reduceLeDiff, reduceCtorEq, Bool.false_eq_true, Bool.not_true, Bool.not_false, and_self, Nat.le_refl, fl31_0, ti25, un25, Pg.fw, List.length_map] <;> rfl) ?_
  refine aops_one rfl (os_min rfl rfl rfl ?_)
  have hcap1 : (if (6 : Int) < (p.ins.length : Int) then (6 : Int) else (p.ins.length : Int)) = ((min p.ins.length 6 : Nat) : Int) := by split <;> omega
  rw [hcap1]
  refine aops_one rfl (os_sliceVec (l := 0) (h := min p.ins.length 6) rfl el25 rfl (fun e he => by obtain ⟨x, _, rfl⟩ := List.mem_map.1 he; simp only [Dl.fw, Df.fw]) rfl ⟨_, rfl⟩ trivial (Nat.zero_le _) (by rw [List.length_map]; omega) ?_)
  simp only [take_map, Option.isSome_none]
  refine aops_run 2 (by simp only [fw0, fw1, fw2, fw3, fw4, fw5, fw6, fw7, ↓reduceIte, Nat.reduceAdd, Nat.reduceMul, Nat.reduceEqDiff, Nat.reduceLT, Nat.reduceLeDiff, reduceCtorEq, Bool.false_eq_true, Bool.not_true, Bool.not_false, and_self, Nat.le_refl, fl31_0, ti25, Pg.fw] <;> rfl) ?_
  refine awp_heap (H' := H ++ [.box (Pg.mk (p.ins.take 6) p.cells p.defs p.body).enc, .box zP]) (by simp [Pg.enc, zP]) ?_
  refine awp_keep (A' := [(1, .ptr H.length 0), (2, .ptr (H.length + 1) 0)]) [1, 2] rfl ?_
  refine awp_seq ?_
  -- region 2
  refine awp_region rfl ?_
  refine aops_run 5 (by simp only [fw0, fw1, fw2, fw3, fw4, fw5, fw6, fw7, ↓reduceIte, Nat.reduceAdd, Nat.reduceMul, Nat.reduceEqDiff, Nat.reduceLT, Nat.reduceLeDiff, reduceCtorEq, Bool.false_eq_true, Bool.not_true, Bool.not_false, and_self, Nat.le_refl, fl31_1, ti25, un25, Pg.fw, List.length_map] <;> rfl) ?_
  refine aops_one rfl (os_min rfl rfl rfl ?_)
  have hcap2 : (if (6 : Int) < (p.cells.length : Int) then (6 : Int) else (p.cells.length : Int)) = ((min p.cells.length 6 : Nat) : Int) := by split <;> omega
  rw [hcap2]
  refine aops_one rfl (os_sliceVec (l := 0) (h := min p.cells.length 6) rfl el25 rfl (fun e he => by obtain ⟨x, _, rfl⟩ := List.mem_map.1 he; simp only [Dl.fw, Df.fw]) rfl ⟨_, rfl⟩ trivial (Nat.zero_le _) (by rw [List.length_map]; omega) ?_)
  simp only [take_map, Option.isSome_none]
  refine aops_run 2 (by simp only [fw0, fw1, fw2, fw3, fw4, fw5, fw6, fw7, ↓reduceIte, Nat.reduceAdd, Nat.reduceMul, Nat.reduceEqDiff, Nat.reduceLT, Nat.reduceLeDiff, reduceCtorEq, Bool.false_eq_true, Bool.not_true, Bool.not_false, and_self, Nat.le_refl, fl31_1, ti25, Pg.fw] <;> rfl) ?_
  refine awp_heap (H' := H ++ [.box (Pg.mk (p.ins.take 6) (p.cells.take 6) p.defs p.body).enc, .box zP]) (by simp [Pg.enc, zP]) ?_
  refine awp_keep (A' := [(1, .ptr H.length 0), (2, .ptr (H.length + 1) 0)]) [1, 2] rfl ?_
  refine awp_seq ?_
  -- region 3
  refine awp_region rfl ?_
  refine aops_run 5 (by simp only [fw0, fw1, fw2, fw3, fw4, fw5, fw6, fw7, ↓reduceIte, Nat.reduceAdd, Nat.reduceMul, Nat.reduceEqDiff, Nat.reduceLT, Nat.reduceLeDiff, reduceCtorEq, Bool.false_eq_true, Bool.not_true, Bool.not_false, and_self, Nat.le_refl, fl31_2, ti26, un26, Pg.fw, List.length_map] <;> rfl) ?_
  refine aops_one rfl (os_min rfl rfl rfl ?_)
  have hcap3 : (if (3 : Int) < (p.defs.length : Int) then (3 : Int) else (p.defs.length : Int)) = ((min p.defs.length 3 : Nat) : Int) := by split <;> omega
  rw [hcap3]
  refine aops_one rfl (os_sliceVec (l := 0) (h := min p.defs.length 3) rfl el26 rfl (fun e he => by obtain ⟨x, _, rfl⟩ := List.mem_map.1 he; simp only [Dl.fw, Df.fw]) rfl ⟨_, rfl⟩ trivial (Nat.zero_le _) (by rw [List.length_map]; omega) ?_)
  simp only [take_map, Option.isSome_none]
  refine aops_run 2 (by simp only [fw0, fw1, fw2, fw3, fw4, fw5, fw6, fw7, ↓reduceIte, Nat.reduceAdd, Nat.reduceMul, Nat.reduceEqDiff, Nat.reduceLT, Nat.reduceLeDiff, reduceCtorEq, Bool.false_eq_true, Bool.not_true, Bool.not_false, and_self, Nat.le_refl, fl31_2, ti26, Pg.fw] <;> rfl) ?_
  refine awp_heap (H' := H ++ [.box (Pg.mk (p.ins.take 6) (p.cells.take 6) (p.defs.take 3) p.body).enc, .box zP]) (by simp [Pg.enc, zP]) ?_
  refine awp_keep (A' := [(1, .ptr H.length 0), (2, .ptr (H.length + 1) 0)]) [1, 2] rfl ?_
  have hcut : Pg.mk (p.ins.take 6) (p.cells.take 6) (p.defs.take 3) p.body = cutP p := rfl
  rw [hcut]
  refine awp_seq ?_
  refine awp_seq ?_
  -- region 4
  refine awp_region rfl ?_
  refine aops_run 1 (by simp only [fw0, fw1, fw2, fw3, fw4, fw5, fw6, fw7, ↓reduceIte, Nat.reduceAdd, Nat.reduceMul, Nat.reduceEqDiff, Nat.reduceLT, Nat.reduceLeDiff, reduceCtorEq, Bool.false_eq_true, Bool.not_true, Bool.not_false, and_self, Nat.le_refl, ti31, Pg.fw] <;> rfl) ?_
  refine aops_fn rfl rfl rfl en41 hz ?_
  refine aops_run 1 (by simp only [fw0, fw1, fw2, fw3, fw4, fw5, fw6, fw7, ↓reduceIte, Nat.reduceAdd, Nat.reduceMul, Nat.reduceEqDiff, Nat.reduceLT, Nat.reduceLeDiff, reduceCtorEq, Bool.false_eq_true, Bool.not_true, Bool.not_false, and_self, Nat.le_refl] <;> rfl) ?_
  refine awp_cond (by simp only [fw0, fw1, fw2, fw3, fw4, fw5, fw6, fw7, ↓reduceIte, Nat.reduceAdd, Nat.reduceMul, Nat.reduceEqDiff, Nat.reduceLT, Nat.reduceLeDiff, reduceCtorEq, Bool.false_eq_true, Bool.not_true, Bool.not_false, and_self, Nat.le_refl] <;> rfl) ?_
  by_cases hc : 50 < z
  · have hr : fewF p z = { cutP p with defs := [], body := numT 0 } := by simp only [fewF, if_pos hc]
    simp only [hc, decide_true, ↓reduceIte]
    refine awp_seq ?_
    -- region 5
    refine awp_run rfl (by simp only [fw0, fw1, fw2, fw3, fw4, fw5, fw6, fw7, ↓reduceIte, Nat.reduceAdd, Nat.reduceMul, Nat.reduceEqDiff, Nat.reduceLT, Nat.reduceLeDiff, reduceCtorEq, Bool.false_eq_true, Bool.not_true, Bool.not_false, and_self, Nat.le_refl, fl31_2, ti26, Pg.fw] <;> rfl) ?_
    refine awp_heap (H' := H ++ [.box (.vec ((cutP p).ins.map Dl.enc) false :: .vec ((cutP p).cells.map Dl.enc) false :: .vec [] true :: (cutP p).body.enc), .box zP]) (by simp [Pg.enc]) ?_
    -- region 6
    refine awp_run rfl (by simp only [fw0, fw1, fw2, fw3, fw4, fw5, fw6, fw7, ↓reduceIte, Nat.reduceAdd, Nat.reduceMul, Nat.reduceEqDiff, Nat.reduceLT, Nat.reduceLeDiff, reduceCtorEq, Bool.false_eq_true, Bool.not_true, Bool.not_false, and_self, Nat.le_refl, fl31_3, ti29, pl29, Pg.fw, Tm.fw, List.take_succ_cons, List.drop_succ_cons, List.take_zero] <;> rfl) ?_
    refine awp_told (told_leBox H.length (cs := .vec ((cutP p).ins.map Dl.enc) false :: .vec ((cutP p).cells.map Dl.enc) false :: .vec [] true :: [.int .i64 1, .str [], .int .i64 0, .vec [] true]) (cs' := (fewF p z).enc) (by simp [Pg.enc, Tm.fw]) (by rw [hr]; simp [Pg.enc, numT, Tm.enc, Tm.encs, PV.le, PV.leL, PV.leLL, PV.leLL_refl])) ?_
    refine awp_heap (H' := H ++ [.box (fewF p z).enc, .box zP]) (by simp) ?_
    refine awp_seq ?_
    -- region 7
    refine awp_run rfl (by simp only [fw0, fw1, fw2, fw3, fw4, fw5, fw6, fw7, ↓reduceIte, Nat.reduceAdd, Nat.reduceMul, Nat.reduceEqDiff, Nat.reduceLT, Nat.reduceLeDiff, reduceCtorEq, Bool.false_eq_true, Bool.not_true, Bool.not_false, and_self, Nat.le_refl, ti31, Pg.fw, zP] <;> rfl) ?_
    refine awp_ret ?_
    refine gives_end (.inl rfl) _ ?_
    simp [ares, aresL, ares1, rd, ev, alook, aput, Tryd.f19, ti31, Pg.fw]
  · have hr : fewF p z = cutP p := by simp only [fewF, if_neg hc]
    simp only [hc, decide_false, Bool.false_eq_true, ↓reduceIte]
    refine awp_skip ?_
    refine awp_seq ?_
    -- region 7
    refine awp_run rfl (by simp only [fw0, fw1, fw2, fw3, fw4, fw5, fw6, fw7, ↓reduceIte, Nat.reduceAdd, Nat.reduceMul, Nat.reduceEqDiff, Nat.reduceLT, Nat.reduceLeDiff, reduceCtorEq, Bool.false_eq_true, Bool.not_true, Bool.not_false, and_self, Nat.le_refl, ti31, Pg.fw, zP] <;> rfl) ?_
    refine awp_ret ?_
    rw [hr]
    refine gives_end (.inl rfl) _ ?_
    simp [ares, aresL, ares1, rd, ev, alook, aput, Tryd.f19, ti31, Pg.fw]

/-- What the walk asks of a program: that memory holds it. -/
structure PgKOk (p : Pg) : Prop where
  ins : p.ins.length ≤ 1000
  cells : p.cells.length ≤ 1000
  ndefs : p.defs.length ≤ 1000
  defs : ∀ d ∈ p.defs, d.t.KOk
  body : p.body.KOk

/-- refProg -/
theorem c29 (Γ : Nat → PV) (p : Pg) (hp : PgKOk p) : Gives Tryd.prog Γ 29 [.agg p.enc] (.agg p.enc) := by
  have hp1 := hp.ins
  have hp2 := hp.cells
  have hp3 := hp.ndefs
  refine fn_of_awp Tryd.func29 rfl (by simp [Tryd.f29]) (by simp [PV.plain, PV.bd, Pg.fw]) fun H => ?_
  refine awp_bd fun hbdH => ?_
  refine awp_seq ?_
  -- region 0
  refine awp_run rfl (by simp only [fw0, fw1, fw2, fw3, fw4, fw5, fw6, fw7, ↓reduceIte, Nat.reduceAdd, Nat.reduceMul, Nat.reduceEqDiff, Nat.reduceLT, Nat.reduceLeDiff, reduceCtorEq, Bool.false_eq_true, Bool.not_true, Bool.not_false, and_self, Nat.le_refl, ti83, Pg.fw] <;> rfl) ?_
  refine awp_seq ?_
  -- region 1
  refine awp_region rfl ?_
  refine aops_run 2 (by simp only [fw0, fw1, fw2, fw3, fw4, fw5, fw6, fw7, ↓reduceIte, Nat.reduceAdd, Nat.reduceMul, Nat.reduceEqDiff, Nat.reduceLT, Nat.reduceLeDiff, reduceCtorEq, Bool.false_eq_true, Bool.not_true, Bool.not_false, and_self, Nat.le_refl, fl31_3, ti29, Pg.fw, Tm.fw] <;> rfl) ?_
  refine aops_fn rfl rfl rfl en24 (c24k Γ p.body hp.body) ?_
  refine aops_run 3 (by simp only [fw0, fw1, fw2, fw3, fw4, fw5, fw6, fw7, ↓reduceIte, Nat.reduceAdd, Nat.reduceMul, Nat.reduceEqDiff, Nat.reduceLT, Nat.reduceLeDiff, reduceCtorEq, Bool.false_eq_true, Bool.not_true, Bool.not_false, and_self, Nat.le_refl, ti83, pl83, Tm.fw] <;> rfl) ?_
  refine awp_keep (A' := [(1, .ptr H.length 0), (2, .ptr (H.length + 1) 0), (3, .ptr (H.length + 2) 0)]) [1, 2, 3] rfl ?_
  refine awp_heap (H' := H ++ [.box p.enc, .box zP, .box ([nl, nl, nl] ++ p.body.enc)]) (by simp [zP]) ?_
  refine awp_told (told_adoptBox (H.length + 2) 0 3 (by decide) (by rw [Fw.get_at]; rfl) rfl) ?_
  refine awp_heap (H' := H ++ [.box p.enc, .box zP, .box ([.row (H.length + 3) 0 0 3, nl, nl] ++ p.body.enc), .row 3 []]) (by simp) ?_
  refine awp_told (told_adoptBox (H.length + 2) 1 3 (by decide) (by rw [Fw.get_at]; rfl) rfl) ?_
  refine awp_heap (H' := H ++ [.box p.enc, .box zP, .box ([.row (H.length + 3) 0 0 3, .row (H.length + 4) 0 0 3, nl] ++ p.body.enc), .row 3 [], .row 3 []]) (by simp) ?_
  refine awp_told (told_adoptBox (H.length + 2) 2 5 (by decide) (by rw [Fw.get_at]; rfl) rfl) ?_
  refine awp_heap (H' := H ++ [.box p.enc, .box zP, .box ([.row (H.length + 3) 0 0 3, .row (H.length + 4) 0 0 3, .row (H.length + 5) 0 0 5] ++ p.body.enc), .row 3 [], .row 3 [], .row 5 []]) (by simp) ?_
  refine awp_seq ?_
  refine awp_seq ?_
  refine awp_run rfl (by simp only [fw0, fw1, fw2, fw3, fw4, fw5, fw6, fw7, ↓reduceIte, Nat.reduceAdd, Nat.reduceMul, Nat.reduceEqDiff, Nat.reduceLT, Nat.reduceLeDiff, reduceCtorEq, Bool.false_eq_true, Bool.not_true, Bool.not_false, and_self, Nat.le_refl] <;> rfl) ?_
  refine awp_block ?_
  refine awp_for [1, 2, 3, 4] (fun i : Nat => [.ptr H.length 0, .ptr (H.length + 1) 0, .ptr (H.length + 2) 0, .int .i64 (i : Int)])
    (fun i => H ++ [.box p.enc, .box zP, .box ([.row (H.length + 3) 0 i 3, .row (H.length + 4) 0 0 3, .row (H.length + 5) 0 0 5] ++ p.body.enc), .row 3 ((p.ins.take i).map Dl.enc).flatten, .row 3 [], .row 5 []]) (fun i => p.ins.length - i) (fun i => i ≤ p.ins.length) 0 (by simp [alook, aput, ev]) (by simp) (Nat.zero_le _) fun i hi => ?_
  have hti : (p.ins.take i).length = i := by simp; omega
  refine awp_seq ?_
  refine awp_seq ?_
  refine awp_run rfl (by simp only [fw0, fw1, fw2, fw3, fw4, fw5, fw6, fw7, ↓reduceIte, Nat.reduceAdd, Nat.reduceMul, Nat.reduceEqDiff, Nat.reduceLT, Nat.reduceLeDiff, reduceCtorEq, Bool.false_eq_true, Bool.not_true, Bool.not_false, and_self, Nat.le_refl, fl31_0, ti25, un25, Pg.fw, List.length_map] <;> rfl) ?_
  refine awp_cond (by simp only [fw0, fw1, fw2, fw3, fw4, fw5, fw6, fw7, ↓reduceIte, Nat.reduceAdd, Nat.reduceMul, Nat.reduceEqDiff, Nat.reduceLT, Nat.reduceLeDiff, reduceCtorEq, Bool.false_eq_true, Bool.not_true, Bool.not_false, and_self, Nat.le_refl] <;> rfl) ?_
  by_cases hc : (i : Int) < p.ins.length
  · simp only [hc, decide_true, ↓reduceIte]
    refine awp_skip ?_
    have hil : i < p.ins.length := by omega
    have gi : p.ins[i]? = some p.ins[i] := List.getElem?_eq_getElem hil
    refine awp_seq ?_
    refine awp_block ?_
    -- drawn
    refine awp_drawn [0, 1, 0, 1, 0, 0, 0, 1, 0, 1, 0, 0, 0, 1, 0, 1, 0, 0, 0, 1, 0, 0, 2, 0, 2] [0, 1, 0, 4, 0, 28, 60, 124, 0, 256, 0, 1792, 3840, 7936, 0, 16384, 0, 114688, 245760, 507904, 1048572, 2097148, 4194303, 8388607, 16777215] mixed rfl (by kernel_rfl) ?_
    refine dops_run 22 (by simp only [fw0, fw1, fw2, fw3, fw4, fw5, fw6, fw7, ↓reduceIte, Nat.reduceAdd, Nat.reduceMul, Nat.reduceEqDiff, Nat.reduceLT, Nat.reduceLeDiff, reduceCtorEq, Bool.false_eq_true, Bool.not_true, Bool.not_false, and_self, Nat.le_refl, fl83_0, ti80, fl31_0, ti25, el25, fl51_0, ti9, fl51_1, fl51_2, ti2, ti124, pl124, un80, Pg.fw, Dl.fw, List.getElem?_map, gi, Option.map_some, Int.natCast_nonneg] <;> rfl) ?_
    refine dops_appendR (b := H.length + 3) (q := 0) (k := i) rfl rfl rfl un80 ti124 un80 (.inl ⟨_, rfl⟩) rfl (by simp only [fw0, fw1, fw2, fw3, fw4, fw5, fw6, fw7, ↓reduceIte, Nat.reduceAdd, Nat.reduceMul, Nat.reduceEqDiff, Nat.reduceLT, Nat.reduceLeDiff, reduceCtorEq, Bool.false_eq_true, Bool.not_true, Bool.not_false, and_self, Nat.le_refl] <;> rfl) (by rw [flat_len Dl.enc_len, hti]; exact (Nat.zero_add _).symm) rfl (fun es f h e he => by
      simp only [fw0, fw1, fw2, fw3, fw4, fw5, fw6, fw7, ↓reduceIte, Nat.reduceAdd, Nat.reduceMul, Nat.reduceEqDiff, Nat.reduceLT, Nat.reduceLeDiff, reduceCtorEq, Bool.false_eq_true, Bool.not_true, Bool.not_false, and_self, Nat.le_refl, PV.vec.injEq] at h
      obtain ⟨rfl, rfl⟩ := h
      simp only [List.mem_singleton] at he
      subst he; rfl) rfl (by show (i + 1) * 40 ≤ _; omega) (by show i + 1 ≤ _; omega) ?_
    refine dops_run 2 (by simp only [fw0, fw1, fw2, fw3, fw4, fw5, fw6, fw7, ↓reduceIte, Nat.reduceAdd, Nat.reduceMul, Nat.reduceEqDiff, Nat.reduceLT, Nat.reduceLeDiff, reduceCtorEq, Bool.false_eq_true, Bool.not_true, Bool.not_false, and_self, Nat.le_refl, fl83_0, ti80] <;> rfl) ?_
    refine dops_end ?_
    refine awp_run rfl (by simp only [fw0, fw1, fw2, fw3, fw4, fw5, fw6, fw7, ↓reduceIte, Nat.reduceAdd, Nat.reduceMul, Nat.reduceEqDiff, Nat.reduceLT, Nat.reduceLeDiff, reduceCtorEq, Bool.false_eq_true, Bool.not_true, Bool.not_false, and_self, Nat.le_refl, wrapS i (by omega)] <;> rfl) ?_
    refine ⟨i + 1, by omega, by omega, by rfl, by rw [flatten_enc Dl.enc _ _ _ gi]; simp [Dl.enc], rfl⟩
  simp only [hc, decide_false, Bool.false_eq_true, ↓reduceIte]
  refine awp_exit ?_
  have hie : i = p.ins.length := by omega
  rw [hie, List.take_length]
  simp only [Post.block, Post.then, ↓reduceIte]
  refine awp_keep (A' := [(1, .ptr H.length 0), (2, .ptr (H.length + 1) 0), (3, .ptr (H.length + 2) 0)]) [1, 2, 3] rfl ?_
  refine awp_seq ?_
  refine awp_seq ?_
  refine awp_run rfl (by simp only [fw0, fw1, fw2, fw3, fw4, fw5, fw6, fw7, ↓reduceIte, Nat.reduceAdd, Nat.reduceMul, Nat.reduceEqDiff, Nat.reduceLT, Nat.reduceLeDiff, reduceCtorEq, Bool.false_eq_true, Bool.not_true, Bool.not_false, and_self, Nat.le_refl] <;> rfl) ?_
  refine awp_block ?_
  refine awp_for [1, 2, 3, 5] (fun i : Nat => [.ptr H.length 0, .ptr (H.length + 1) 0, .ptr (H.length + 2) 0, .int .i64 (i : Int)])
    (fun i => H ++ [.box p.enc, .box zP, .box ([.row (H.length + 3) 0 p.ins.length 3, .row (H.length + 4) 0 i 3, .row (H.length + 5) 0 0 5] ++ p.body.enc), .row 3 (p.ins.map Dl.enc).flatten, .row 3 ((p.cells.take i).map Dl.enc).flatten, .row 5 []]) (fun i => p.cells.length - i) (fun i => i ≤ p.cells.length) 0 (by simp [alook, aput, ev]) (by simp) (Nat.zero_le _) fun i hi => ?_
  have hti : (p.cells.take i).length = i := by simp; omega
  refine awp_seq ?_
  refine awp_seq ?_
  refine awp_run rfl (by simp only [fw0, fw1, fw2, fw3, fw4, fw5, fw6, fw7, ↓reduceIte, Nat.reduceAdd, Nat.reduceMul, Nat.reduceEqDiff, Nat.reduceLT, Nat.reduceLeDiff, reduceCtorEq, Bool.false_eq_true, Bool.not_true, Bool.not_false, and_self, Nat.le_refl, fl31_1, ti25, un25, Pg.fw, List.length_map] <;> rfl) ?_
  refine awp_cond (by simp only [fw0, fw1, fw2, fw3, fw4, fw5, fw6, fw7, ↓reduceIte, Nat.reduceAdd, Nat.reduceMul, Nat.reduceEqDiff, Nat.reduceLT, Nat.reduceLeDiff, reduceCtorEq, Bool.false_eq_true, Bool.not_true, Bool.not_false, and_self, Nat.le_refl] <;> rfl) ?_
  by_cases hc : (i : Int) < p.cells.length
  · simp only [hc, decide_true, ↓reduceIte]
    refine awp_skip ?_
    have hil : i < p.cells.length := by omega
    have gi : p.cells[i]? = some p.cells[i] := List.getElem?_eq_getElem hil
    refine awp_seq ?_
    refine awp_block ?_
    -- drawn
    refine awp_drawn [0, 1, 0, 1, 0, 0, 0, 1, 0, 1, 0, 0, 0, 1, 0, 1, 0, 0, 0, 1, 0, 0, 2, 0, 2] [0, 1, 0, 4, 0, 28, 60, 124, 0, 256, 0, 1792, 3840, 7936, 0, 16384, 0, 114688, 245760, 507904, 1048572, 2097148, 4194303, 8388607, 16777215] mixed rfl (by kernel_rfl) ?_
    refine dops_run 22 (by simp only [fw0, fw1, fw2, fw3, fw4, fw5, fw6, fw7, ↓reduceIte, Nat.reduceAdd, Nat.reduceMul, Nat.reduceEqDiff, Nat.reduceLT, Nat.reduceLeDiff, reduceCtorEq, Bool.false_eq_true, Bool.not_true, Bool.not_false, and_self, Nat.le_refl, fl83_1, ti80, fl31_1, ti25, el25, fl51_0, ti9, fl51_1, fl51_2, ti2, ti124, pl124, un80, Pg.fw, Dl.fw, List.getElem?_map, gi, Option.map_some, Int.natCast_nonneg] <;> rfl) ?_
    refine dops_appendR (b := H.length + 4) (q := 0) (k := i) rfl rfl rfl un80 ti124 un80 (.inl ⟨_, rfl⟩) rfl (by simp only [fw0, fw1, fw2, fw3, fw4, fw5, fw6, fw7, ↓reduceIte, Nat.reduceAdd, Nat.reduceMul, Nat.reduceEqDiff, Nat.reduceLT, Nat.reduceLeDiff, reduceCtorEq, Bool.false_eq_true, Bool.not_true, Bool.not_false, and_self, Nat.le_refl] <;> rfl) (by rw [flat_len Dl.enc_len, hti]; exact (Nat.zero_add _).symm) rfl (fun es f h e he => by
      simp only [fw0, fw1, fw2, fw3, fw4, fw5, fw6, fw7, ↓reduceIte, Nat.reduceAdd, Nat.reduceMul, Nat.reduceEqDiff, Nat.reduceLT, Nat.reduceLeDiff, reduceCtorEq, Bool.false_eq_true, Bool.not_true, Bool.not_false, and_self, Nat.le_refl, PV.vec.injEq] at h
      obtain ⟨rfl, rfl⟩ := h
      simp only [List.mem_singleton] at he
      subst he; rfl) rfl (by show (i + 1) * 40 ≤ _; omega) (by show i + 1 ≤ _; omega) ?_
    refine dops_run 2 (by simp only [fw0, fw1, fw2, fw3, fw4, fw5, fw6, fw7, ↓reduceIte, Nat.reduceAdd, Nat.reduceMul, Nat.reduceEqDiff, Nat.reduceLT, Nat.reduceLeDiff, reduceCtorEq, Bool.false_eq_true, Bool.not_true, Bool.not_false, and_self, Nat.le_refl, fl83_1, ti80] <;> rfl) ?_
    refine dops_end ?_
    refine awp_run rfl (by simp only [fw0, fw1, fw2, fw3, fw4, fw5, fw6, fw7, ↓reduceIte, Nat.reduceAdd, Nat.reduceMul, Nat.reduceEqDiff, Nat.reduceLT, Nat.reduceLeDiff, reduceCtorEq, Bool.false_eq_true, Bool.not_true, Bool.not_false, and_self, Nat.le_refl, wrapS i (by omega)] <;> rfl) ?_
    refine ⟨i + 1, by omega, by omega, by rfl, by rw [flatten_enc Dl.enc _ _ _ gi]; simp [Dl.enc], rfl⟩
  simp only [hc, decide_false, Bool.false_eq_true, ↓reduceIte]
  refine awp_exit ?_
  have hie : i = p.cells.length := by omega
  rw [hie, List.take_length]
  simp only [Post.block, Post.then, ↓reduceIte]
  refine awp_keep (A' := [(1, .ptr H.length 0), (2, .ptr (H.length + 1) 0), (3, .ptr (H.length + 2) 0)]) [1, 2, 3] rfl ?_
  refine awp_seq ?_
  refine awp_seq ?_
  refine awp_run rfl (by simp only [fw0, fw1, fw2, fw3, fw4, fw5, fw6, fw7, ↓reduceIte, Nat.reduceAdd, Nat.reduceMul, Nat.reduceEqDiff, Nat.reduceLT, Nat.reduceLeDiff, reduceCtorEq, Bool.false_eq_true, Bool.not_true, Bool.not_false, and_self, Nat.le_refl] <;> rfl) ?_
  refine awp_block ?_
  refine awp_for [1, 2, 3, 6] (fun i : Nat => [.ptr H.length 0, .ptr (H.length + 1) 0, .ptr (H.length + 2) 0, .int .i64 (i : Int)])
    (fun i => H ++ [.box p.enc, .box zP, .box ([.row (H.length + 3) 0 p.ins.length 3, .row (H.length + 4) 0 p.cells.length 3, .row (H.length + 5) 0 i 5] ++ p.body.enc), .row 3 (p.ins.map Dl.enc).flatten, .row 3 (p.cells.map Dl.enc).flatten, .row 5 ((p.defs.take i).map Df.enc).flatten]) (fun i => p.defs.length - i) (fun i => i ≤ p.defs.length) 0 (by simp [alook, aput, ev]) (by simp) (Nat.zero_le _) fun i hi => ?_
  have hti : (p.defs.take i).length = i := by simp; omega
  refine awp_seq ?_
  refine awp_seq ?_
  refine awp_run rfl (by simp only [fw0, fw1, fw2, fw3, fw4, fw5, fw6, fw7, ↓reduceIte, Nat.reduceAdd, Nat.reduceMul, Nat.reduceEqDiff, Nat.reduceLT, Nat.reduceLeDiff, reduceCtorEq, Bool.false_eq_true, Bool.not_true, Bool.not_false, and_self, Nat.le_refl, fl31_2, ti26, un26, Pg.fw, List.length_map] <;> rfl) ?_
  refine awp_cond (by simp only [fw0, fw1, fw2, fw3, fw4, fw5, fw6, fw7, ↓reduceIte, Nat.reduceAdd, Nat.reduceMul, Nat.reduceEqDiff, Nat.reduceLT, Nat.reduceLeDiff, reduceCtorEq, Bool.false_eq_true, Bool.not_true, Bool.not_false, and_self, Nat.le_refl] <;> rfl) ?_
  by_cases hc : (i : Int) < p.defs.length
  · simp only [hc, decide_true, ↓reduceIte]
    refine awp_skip ?_
    have hil : i < p.defs.length := by omega
    have gi : p.defs[i]? = some p.defs[i] := List.getElem?_eq_getElem hil
    refine awp_seq ?_
    refine awp_block ?_
    -- drawn
    refine awp_drawn [0, 1, 0, 1, 0, 0, 0, 1, 0, 1, 0, 0, 0, 1, 0, 0, 0, 2, 0, 2] [0, 1, 0, 4, 0, 28, 60, 124, 0, 256, 0, 1792, 3840, 7936, 16128, 32764, 65532, 131071, 262143, 524287] mixed rfl (by kernel_rfl) ?_
    refine dops_run 14 (by simp only [fw0, fw1, fw2, fw3, fw4, fw5, fw6, fw7, ↓reduceIte, Nat.reduceAdd, Nat.reduceMul, Nat.reduceEqDiff, Nat.reduceLT, Nat.reduceLeDiff, reduceCtorEq, Bool.false_eq_true, Bool.not_true, Bool.not_false, and_self, Nat.le_refl, fl83_2, ti81, fl31_2, ti26, el26, fl92_0, ti9, fl92_1, ti29, Pg.fw, Df.fw, Tm.fw, List.getElem?_map, gi, Option.map_some, Int.natCast_nonneg] <;> rfl) ?_
    refine dops_fn rfl rfl rfl rfl en24 (c24k Γ p.defs[i].t (hp.defs _ (List.getElem_mem hil))) ?_
    refine dops_run 2 (by simp only [fw0, fw1, fw2, fw3, fw4, fw5, fw6, fw7, ↓reduceIte, Nat.reduceAdd, Nat.reduceMul, Nat.reduceEqDiff, Nat.reduceLT, Nat.reduceLeDiff, reduceCtorEq, Bool.false_eq_true, Bool.not_true, Bool.not_false, and_self, Nat.le_refl, ti127, pl127, un81, Tm.fw, PV.plainL, PV.bdL, PV.bd, PV.bdL_append, List.take_zero, List.append_nil, Bool.and_self] <;> rfl) ?_
    refine dops_appendR (b := H.length + 5) (q := 0) (k := i) rfl rfl rfl un81 ti127 un81 (.inl ⟨_, rfl⟩) rfl (by simp only [fw0, fw1, fw2, fw3, fw4, fw5, fw6, fw7, ↓reduceIte, Nat.reduceAdd, Nat.reduceMul, Nat.reduceEqDiff, Nat.reduceLT, Nat.reduceLeDiff, reduceCtorEq, Bool.false_eq_true, Bool.not_true, Bool.not_false, and_self, Nat.le_refl] <;> rfl) (by rw [flat_len Df.enc_len, hti]; exact (Nat.zero_add _).symm) rfl (fun es f h e he => by
      simp only [fw0, fw1, fw2, fw3, fw4, fw5, fw6, fw7, ↓reduceIte, Nat.reduceAdd, Nat.reduceMul, Nat.reduceEqDiff, Nat.reduceLT, Nat.reduceLeDiff, reduceCtorEq, Bool.false_eq_true, Bool.not_true, Bool.not_false, and_self, Nat.le_refl, PV.vec.injEq] at h
      obtain ⟨rfl, rfl⟩ := h
      simp only [List.mem_singleton] at he
      subst he; simp only [fw0, fw1, fw2, fw3, fw4, fw5, fw6, fw7, ↓reduceIte, Nat.reduceAdd, Nat.reduceMul, Nat.reduceEqDiff, Nat.reduceLT, Nat.reduceLeDiff, reduceCtorEq, Bool.false_eq_true, Bool.not_true, Bool.not_false, and_self, Nat.le_refl, Tm.fw]) rfl (by show (i + 1) * 72 ≤ _; omega) (by show i + 1 ≤ _; omega) ?_
    refine dops_run 2 (by simp only [fw0, fw1, fw2, fw3, fw4, fw5, fw6, fw7, ↓reduceIte, Nat.reduceAdd, Nat.reduceMul, Nat.reduceEqDiff, Nat.reduceLT, Nat.reduceLeDiff, reduceCtorEq, Bool.false_eq_true, Bool.not_true, Bool.not_false, and_self, Nat.le_refl, fl83_2, ti81] <;> rfl) ?_
    refine dops_end ?_
    refine awp_run rfl (by simp only [fw0, fw1, fw2, fw3, fw4, fw5, fw6, fw7, ↓reduceIte, Nat.reduceAdd, Nat.reduceMul, Nat.reduceEqDiff, Nat.reduceLT, Nat.reduceLeDiff, reduceCtorEq, Bool.false_eq_true, Bool.not_true, Bool.not_false, and_self, Nat.le_refl, wrapS i (by omega)] <;> rfl) ?_
    refine ⟨i + 1, by omega, by omega, by rfl, by rw [flatten_enc Df.enc _ _ _ gi]; simp [Df.enc], rfl⟩
  simp only [hc, decide_false, Bool.false_eq_true, ↓reduceIte]
  refine awp_exit ?_
  have hie : i = p.defs.length := by omega
  rw [hie, List.take_length]
  simp only [Post.block, Post.then, ↓reduceIte]
  refine awp_keep (A' := [(1, .ptr H.length 0), (2, .ptr (H.length + 1) 0), (3, .ptr (H.length + 2) 0)]) [1, 2, 3] rfl ?_
  have hbx : H.length + 2 < (H ++ [Blk.box p.enc, .box zP, .box []]).length := by simp
  have hHl : (H ++ [Blk.box p.enc, .box zP, .box []]).length = H.length + 3 := by simp
  have hHx : ∀ P Ls, Bp (H ++ [Blk.box p.enc, .box zP, .box []]) (H.length + 2) P ++ Ls = H ++ (.box p.enc :: .box zP :: .box P :: Ls) := fun P Ls => by simp [Bp]
  refine awp_heap (H' := Bp (H ++ [Blk.box p.enc, .box zP, .box []]) (H.length + 2) ([.row ((H ++ [Blk.box p.enc, .box zP, .box []]).length + 0) 0 p.ins.length 3, .row ((H ++ [Blk.box p.enc, .box zP, .box []]).length + 1) 0 p.cells.length 3, .row ((H ++ [Blk.box p.enc, .box zP, .box []]).length + 2) 0 p.defs.length 5] ++ p.body.enc) ++ [.row 3 ((p.ins.map Dl.enc).flatten), .row 3 ((p.cells.map Dl.enc).flatten), .row 5 ((p.defs.map Df.enc).flatten)]) (by rw [hHx, hHl]; rfl) ?_
  generalize hHH : H ++ [Blk.box p.enc, .box zP, .box []] = Hx at hbx hHl hHx ⊢
  refine awp_told (told_mk hbx (cs' := [.vec (p.ins.map Dl.enc) false, .row (Hx.length + 1) 0 p.cells.length 3, .row (Hx.length + 2) 0 p.defs.length 5] ++ p.body.enc) 0 rfl (flat_bd (enc := Dl.enc) (fun _ => Dl.fw.2.2.2.2.2 _ _) _) (by
    rw [List.map_append, frz_tm]
    simp only [List.map_cons, List.map_nil]
    rw [frz_row (by rw [flat_len Dl.enc_len]), frz_ne (by omega), frz_ne (by omega), flat_chunk Dl.enc_len]) rfl) ?_
  refine awp_told (told_mk hbx (cs' := [.vec (p.ins.map Dl.enc) false, .vec (p.cells.map Dl.enc) false, .row (Hx.length + 2) 0 p.defs.length 5] ++ p.body.enc) 1 rfl (flat_bd (enc := Dl.enc) (fun _ => Dl.fw.2.2.2.2.2 _ _) _) (by
    rw [List.map_append, frz_tm]
    simp only [List.map_cons, List.map_nil]
    rw [frz_row (by rw [flat_len Dl.enc_len]), frz_ne (by omega), flat_chunk Dl.enc_len]; rfl) rfl) ?_
  refine awp_told (told_mk hbx (cs' := [.vec (p.ins.map Dl.enc) false, .vec (p.cells.map Dl.enc) false, .vec (p.defs.map Df.enc) false] ++ p.body.enc) 2 rfl (flat_bd (enc := Df.enc) (fun _ => Df.fw.2.2.2.2 _ _) _) (by
    rw [List.map_append, frz_tm]
    simp only [List.map_cons, List.map_nil]
    rw [frz_row (by rw [flat_len Df.enc_len]), flat_chunk Df.enc_len]; rfl) rfl) ?_
  have hpe : ([.vec (p.ins.map Dl.enc) false, .vec (p.cells.map Dl.enc) false, .vec (p.defs.map Df.enc) false] ++ p.body.enc : List PV) = p.enc := rfl
  rw [hpe, hHx]
  refine awp_heap (H' := H ++ [.box p.enc, .box zP, .box p.enc, .dead, .dead, .dead]) (by simp) ?_
  refine awp_seq ?_
  -- region 14
  refine awp_run rfl (by simp only [fw0, fw1, fw2, fw3, fw4, fw5, fw6, fw7, ↓reduceIte, Nat.reduceAdd, Nat.reduceMul, Nat.reduceEqDiff, Nat.reduceLT, Nat.reduceLeDiff, reduceCtorEq, Bool.false_eq_true, Bool.not_true, Bool.not_false, and_self, Nat.le_refl, ti83, Pg.fw, zP] <;> rfl) ?_
  refine awp_ret ?_
  refine gives_end (.inl rfl) _ ?_
  simp [ares, aresL, ares1, rd, ev, alook, aput, Tryd.f29, ti83, Pg.fw]

end Go.Proofs.YtnjlfbefpoecpaaDoor

/- The document's run: a program. -/
namespace Go.Proofs.YtnjlfbefpoecpaaDoor
set_option linter.unusedVariables false
set_option linter.unusedSimpArgs false
set_option maxRecDepth 100000
open Go.RowKit Fw

theorem cell_le (nm : List UInt8) : PV.leL [.int .i64 2, .int .i64 0, .str nm, .int .i64 0, .str [], .int .i64 0, .vec [] true, .vec [] true] (cellV nm).enc := by
  simp [cellV, Val.enc, Tm.enc, Tm.encs, Bd.encs, PV.le, PV.leL, PV.leLL]
/-- chancelref19.Run -/
theorem c28 (Γ : Nat → PV) (p : Pg) (ins : List Int) (f : Int) (hp : p.ins.length + p.cells.length + p.defs.length ≤ 1000) :
    Gives Tryd.prog Γ 28 [.agg p.enc, .vec (ins.map fun n => [.int .i64 n]) false, .int .i64 f] (.agg (resE (runP p ins f))) := by
  refine fn_of_awp Tryd.func28 rfl (by simp [Tryd.f28]) (by simp [PV.plain, PV.bd, resE_fw]) fun H => ?_
  refine awp_bd fun hbdH => ?_
  refine awp_vlen 1 rfl fun hinl => ?_
  rw [List.length_map] at hinl
  refine awp_seq ?_
  -- region 0
  refine awp_run rfl (by simp only [fw0, fw1, fw2, fw3, fw4, fw5, fw6, fw7, ↓reduceIte, Nat.reduceAdd, Nat.reduceMul, Nat.reduceEqDiff, Nat.reduceLT, Nat.reduceLeDiff, reduceCtorEq, Bool.false_eq_true, Bool.not_true, Bool.not_false, and_self, Nat.le_refl, ti73, Pg.fw] <;> rfl) ?_
  refine awp_seq ?_
  -- region 1
  refine awp_run rfl (by simp only [fw0, fw1, fw2, fw3, fw4, fw5, fw6, fw7, ↓reduceIte, Nat.reduceAdd, Nat.reduceMul, Nat.reduceEqDiff, Nat.reduceLT, Nat.reduceLeDiff, reduceCtorEq, Bool.false_eq_true, Bool.not_true, Bool.not_false, and_self, Nat.le_refl] <;> rfl) ?_
  refine awp_seq ?_
  -- region 2
  refine awp_run rfl (by simp only [fw0, fw1, fw2, fw3, fw4, fw5, fw6, fw7, ↓reduceIte, Nat.reduceAdd, Nat.reduceMul, Nat.reduceEqDiff, Nat.reduceLT, Nat.reduceLeDiff, reduceCtorEq, Bool.false_eq_true, Bool.not_true, Bool.not_false, and_self, Nat.le_refl] <;> rfl) ?_
  refine awp_told (told_adopt 8 2 (by decide) rfl) ?_
  refine awp_told (told_le 7 (.vec (([] : List Bd).map Bd.enc) false) ⟨nofun, trivial⟩) ?_
  refine awp_heap (H' := H ++ [.box p.enc, .box resZ, .row 2 []]) (by simp [resZ, zeroVP]) ?_
  refine awp_keep (A' := [(1, .vec (ins.map fun n => [.int .i64 n]) false), (2, .int .i64 f), (3, .ptr H.length 0), (6, .ptr (H.length + 1) 0), (7, .vec (([] : List Bd).map Bd.enc) false), (8, .row (H.length + 2) 0 0 2)]) [1, 2, 3, 6, 7, 8] (by simp [akeep, alook]) ?_
  refine awp_seq ?_
  refine awp_seq ?_
  -- region 3
  refine awp_run rfl (by simp only [fw0, fw1, fw2, fw3, fw4, fw5, fw6, fw7, ↓reduceIte, Nat.reduceAdd, Nat.reduceMul, Nat.reduceEqDiff, Nat.reduceLT, Nat.reduceLeDiff, reduceCtorEq, Bool.false_eq_true, Bool.not_true, Bool.not_false, and_self, Nat.le_refl] <;> rfl) ?_
  refine awp_block ?_
  refine awp_for [1, 2, 3, 6, 7, 8, 9] (fun i : Nat => [.vec (ins.map fun n => [.int .i64 n]) false, .int .i64 f, .ptr H.length 0, .ptr (H.length + 1) 0, .vec (((p.ins.zipIdx.take i).map (inB ins)).map Bd.enc) false, .row (H.length + 2) 0 0 2, .int .i64 i])
    (fun _ => H ++ [.box p.enc, .box resZ, .row 2 []]) (fun i => p.ins.length - i) (fun i => i ≤ p.ins.length) 0 (by simp [alook, aput, ev]) rfl (Nat.zero_le _) fun i hi => ?_
  refine awp_seq ?_
  refine awp_seq ?_
  -- region 4
  refine awp_run rfl (by simp only [fw0, fw1, fw2, fw3, fw4, fw5, fw6, fw7, ↓reduceIte, Nat.reduceAdd, Nat.reduceMul, Nat.reduceEqDiff, Nat.reduceLT, Nat.reduceLeDiff, reduceCtorEq, Bool.false_eq_true, Bool.not_true, Bool.not_false, and_self, Nat.le_refl, fl83_0, ti80, un80, Pg.fw, List.length_map] <;> rfl) ?_
  refine awp_cond (by simp only [fw0, fw1, fw2, fw3, fw4, fw5, fw6, fw7, ↓reduceIte, Nat.reduceAdd, Nat.reduceMul, Nat.reduceEqDiff, Nat.reduceLT, Nat.reduceLeDiff, reduceCtorEq, Bool.false_eq_true, Bool.not_true, Bool.not_false, and_self, Nat.le_refl] <;> rfl) ?_
  by_cases hc : (i : Int) < p.ins.length
  · simp only [hc, decide_true, ↓reduceIte]
    refine awp_skip ?_
    have hil : i < p.ins.length := by omega
    have gi : p.ins[i]? = some p.ins[i] := List.getElem?_eq_getElem hil
    have henv : ((p.ins.zipIdx.take i).map (inB ins)).length * 128 ≤ reachBytes := by
      rw [List.length_map, List.length_take, List.length_zipIdx]; unfold reachBytes; omega
    refine awp_seq ?_
    refine awp_block ?_
    refine awp_seq ?_
    -- region 6
    refine awp_run rfl (by simp only [fw0, fw1, fw2, fw3, fw4, fw5, fw6, fw7, ↓reduceIte, Nat.reduceAdd, Nat.reduceMul, Nat.reduceEqDiff, Nat.reduceLT, Nat.reduceLeDiff, reduceCtorEq, Bool.false_eq_true, Bool.not_true, Bool.not_false, and_self, Nat.le_refl] <;> rfl) ?_
    refine awp_seq ?_
    refine awp_seq ?_
    -- region 7
    refine awp_run rfl (by simp only [fw0, fw1, fw2, fw3, fw4, fw5, fw6, fw7, ↓reduceIte, Nat.reduceAdd, Nat.reduceMul, Nat.reduceEqDiff, Nat.reduceLT, Nat.reduceLeDiff, reduceCtorEq, Bool.false_eq_true, Bool.not_true, Bool.not_false, and_self, Nat.le_refl, un23, List.length_map] <;> rfl) ?_
    refine awp_cond (by simp only [fw0, fw1, fw2, fw3, fw4, fw5, fw6, fw7, ↓reduceIte, Nat.reduceAdd, Nat.reduceMul, Nat.reduceEqDiff, Nat.reduceLT, Nat.reduceLeDiff, reduceCtorEq, Bool.false_eq_true, Bool.not_true, Bool.not_false, and_self, Nat.le_refl] <;> rfl) ?_
    by_cases hin : (i : Int) < ins.length
    · simp only [hin, decide_true, ↓reduceIte]
      have hin' : i < ins.length := by omega
      have gn : ins[i]? = some ins[i] := List.getElem?_eq_getElem hin'
      have gd : ins.getD i 0 = ins[i] := by rw [List.getD_eq_getElem?_getD, gn]; rfl
      -- region 8
      refine awp_run rfl (by simp only [fw0, fw1, fw2, fw3, fw4, fw5, fw6, fw7, ↓reduceIte, Nat.reduceAdd, Nat.reduceMul, Nat.reduceEqDiff, Nat.reduceLT, Nat.reduceLeDiff, reduceCtorEq, Bool.false_eq_true, Bool.not_true, Bool.not_false, and_self, Nat.le_refl, el23, ti2, List.getElem?_map, gn, Option.map_some, Int.natCast_nonneg] <;> rfl) ?_
      -- region 9 drawn
      refine awp_drawn [0, 0, 1, 0, 0, 0, 1, 0, 0, 0, 0] [0, 0, 2, 0, 14, 30, 62, 0, 128, 511, 1023] mixed rfl (by kernel_rfl) ?_
      refine dops_run 8 (by simp only [fw0, fw1, fw2, fw3, fw4, fw5, fw6, fw7, ↓reduceIte, Nat.reduceAdd, Nat.reduceMul, Nat.reduceEqDiff, Nat.reduceLT, Nat.reduceLeDiff, reduceCtorEq, Bool.false_eq_true, Bool.not_true, Bool.not_false, and_self, Nat.le_refl, fl83_0, ti80, el80, fl124_0, ti9, Pg.fw, Dl.fw, List.getElem?_map, gi, Option.map_some, Int.natCast_nonneg] <;> rfl) ?_
      refine dops_fn rfl rfl rfl rfl en53 (c53 Γ ins[i]) ?_
      refine dops_fn rfl rfl rfl rfl en48 (c48 Γ _ p.ins[i].name (wholeV ins[i]) henv) ?_
      refine dops_run 1 (by simp only [fw0, fw1, fw2, fw3, fw4, fw5, fw6, fw7, ↓reduceIte, Nat.reduceAdd, Nat.reduceMul, Nat.reduceEqDiff, Nat.reduceLT, Nat.reduceLeDiff, reduceCtorEq, Bool.false_eq_true, Bool.not_true, Bool.not_false, and_self, Nat.le_refl] <;> rfl) ?_
      refine dops_end ?_
      -- region 5
      refine awp_run rfl (by simp only [fw0, fw1, fw2, fw3, fw4, fw5, fw6, fw7, ↓reduceIte, Nat.reduceAdd, Nat.reduceMul, Nat.reduceEqDiff, Nat.reduceLT, Nat.reduceLeDiff, reduceCtorEq, Bool.false_eq_true, Bool.not_true, Bool.not_false, and_self, Nat.le_refl, wrapS i (by omega)] <;> rfl) ?_
      refine ⟨i + 1, by omega, by omega, by rw [zip_take hil, gd]; rfl, rfl, rfl⟩
    · simp only [hin, decide_false, Bool.false_eq_true, ↓reduceIte]
      have gd : ins.getD i 0 = 0 := by rw [List.getD_eq_getElem?_getD, List.getElem?_eq_none (by omega)]; rfl
      refine awp_skip ?_
      -- region 9 drawn
      refine awp_drawn [0, 0, 1, 0, 0, 0, 1, 0, 0, 0, 0] [0, 0, 2, 0, 14, 30, 62, 0, 128, 511, 1023] mixed rfl (by kernel_rfl) ?_
      refine dops_run 8 (by simp only [fw0, fw1, fw2, fw3, fw4, fw5, fw6, fw7, ↓reduceIte, Nat.reduceAdd, Nat.reduceMul, Nat.reduceEqDiff, Nat.reduceLT, Nat.reduceLeDiff, reduceCtorEq, Bool.false_eq_true, Bool.not_true, Bool.not_false, and_self, Nat.le_refl, fl83_0, ti80, el80, fl124_0, ti9, Pg.fw, Dl.fw, List.getElem?_map, gi, Option.map_some, Int.natCast_nonneg] <;> rfl) ?_
      refine dops_fn rfl rfl rfl rfl en53 (c53 Γ 0) ?_
      refine dops_fn rfl rfl rfl rfl en48 (c48 Γ _ p.ins[i].name (wholeV 0) henv) ?_
      refine dops_run 1 (by simp only [fw0, fw1, fw2, fw3, fw4, fw5, fw6, fw7, ↓reduceIte, Nat.reduceAdd, Nat.reduceMul, Nat.reduceEqDiff, Nat.reduceLT, Nat.reduceLeDiff, reduceCtorEq, Bool.false_eq_true, Bool.not_true, Bool.not_false, and_self, Nat.le_refl] <;> rfl) ?_
      refine dops_end ?_
      -- region 5
      refine awp_run rfl (by simp only [fw0, fw1, fw2, fw3, fw4, fw5, fw6, fw7, ↓reduceIte, Nat.reduceAdd, Nat.reduceMul, Nat.reduceEqDiff, Nat.reduceLT, Nat.reduceLeDiff, reduceCtorEq, Bool.false_eq_true, Bool.not_true, Bool.not_false, and_self, Nat.le_refl, wrapS i (by omega)] <;> rfl) ?_
      refine ⟨i + 1, by omega, by omega, by rw [zip_take hil, gd]; rfl, rfl, rfl⟩
  simp only [hc, decide_false, Bool.false_eq_true, ↓reduceIte]
  refine awp_exit ?_
  have hie : i = p.ins.length := by omega
  subst hie
  have htl : p.ins.zipIdx.take p.ins.length = p.ins.zipIdx := List.take_of_length_le (by simp)
  rw [htl]
  simp only [Post.block, Post.then, ↓reduceIte]
  refine awp_keep (A' := [(2, .int .i64 f), (3, .ptr H.length 0), (6, .ptr (H.length + 1) 0), (7, .vec ((p.ins.zipIdx.map (inB ins)).map Bd.enc) false), (8, .row (H.length + 2) 0 0 2)]) [2, 3, 6, 7, 8] rfl ?_
  refine awp_seq ?_
  refine awp_seq ?_
  -- region 10
  refine awp_run rfl (by simp only [fw0, fw1, fw2, fw3, fw4, fw5, fw6, fw7, ↓reduceIte, Nat.reduceAdd, Nat.reduceMul, Nat.reduceEqDiff, Nat.reduceLT, Nat.reduceLeDiff, reduceCtorEq, Bool.false_eq_true, Bool.not_true, Bool.not_false, and_self, Nat.le_refl] <;> rfl) ?_
  refine awp_block ?_
  refine awp_forG [2, 3, 6, 7, 8, 11] (fun j : Nat => [.int .i64 f, .ptr H.length 0, .ptr (H.length + 1) 0, .vec ((p.ins.zipIdx.map (inB ins) ++ (p.cells.take j).map cellB).map Bd.enc) false, .row (H.length + 2) 0 j 2, .int .i64 j])
    (fun j => H ++ [.box p.enc, .box resZ, .row 2 (((p.cells.take j).map slot).map Sl.enc).flatten]) (fun j => p.cells.length - j) (fun j => j ≤ p.cells.length) 0 (by simp [alook, aput, ev]) rfl (Nat.zero_le _) (fun j _ => ⟨bd_app hbdH (by simp only [List.all_cons, List.all_nil, Blk.bd, Pg.fw, resZ_bd, Bool.and_true, Bool.true_and]; exact flat_bd (fun s => by simp only [Sl.fw]) _), by simp [PV.bdL, PV.bd]⟩) (fun j _ b hb => by cases hb) fun j hj => ?_
  have hcl : ((p.cells.take j).map slot).length = j := by simp; omega
  refine awp_seq ?_
  refine awp_seq ?_
  -- region 11
  refine awp_run rfl (by simp only [fw0, fw1, fw2, fw3, fw4, fw5, fw6, fw7, ↓reduceIte, Nat.reduceAdd, Nat.reduceMul, Nat.reduceEqDiff, Nat.reduceLT, Nat.reduceLeDiff, reduceCtorEq, Bool.false_eq_true, Bool.not_true, Bool.not_false, and_self, Nat.le_refl, fl83_1, ti80, un80, Pg.fw, List.length_map] <;> rfl) ?_
  refine awp_cond (by simp only [fw0, fw1, fw2, fw3, fw4, fw5, fw6, fw7, ↓reduceIte, Nat.reduceAdd, Nat.reduceMul, Nat.reduceEqDiff, Nat.reduceLT, Nat.reduceLeDiff, reduceCtorEq, Bool.false_eq_true, Bool.not_true, Bool.not_false, and_self, Nat.le_refl] <;> rfl) ?_
  by_cases hcj : (j : Int) < p.cells.length
  · simp only [hcj, decide_true, ↓reduceIte]
    refine awp_skip ?_
    have hjl : j < p.cells.length := by omega
    have gj : p.cells[j]? = some p.cells[j] := List.getElem?_eq_getElem hjl
    refine awp_seq ?_
    refine awp_block ?_
    refine awp_seq ?_
    -- region 13
    refine awp_run rfl (by simp only [fw0, fw1, fw2, fw3, fw4, fw5, fw6, fw7, ↓reduceIte, Nat.reduceAdd, Nat.reduceMul, Nat.reduceEqDiff, Nat.reduceLT, Nat.reduceLeDiff, reduceCtorEq, Bool.false_eq_true, Bool.not_true, Bool.not_false, and_self, Nat.le_refl, fl83_1, ti80, el80, ti124, Pg.fw, Dl.fw, List.getElem?_map, gj, Option.map_some, Int.natCast_nonneg] <;> rfl) ?_
    refine awp_seq ?_
    -- region 14
    refine awp_region rfl ?_
    refine aops_run 7 (by simp only [fw0, fw1, fw2, fw3, fw4, fw5, fw6, fw7, ↓reduceIte, Nat.reduceAdd, Nat.reduceMul, Nat.reduceEqDiff, Nat.reduceLT, Nat.reduceLeDiff, reduceCtorEq, Bool.false_eq_true, Bool.not_true, Bool.not_false, and_self, Nat.le_refl, fl124_0, ti9, fl124_2, ti2, ti121, pl121, un71, Dl.fw] <;> rfl) ?_
    refine aops_one rfl (os_appendR rfl un71 ti121 un71 (.inl ⟨_, rfl⟩) rfl (by simp only [fw0, fw1, fw2, fw3, fw4, fw5, fw6, fw7, ↓reduceIte, Nat.reduceAdd, Nat.reduceMul, Nat.reduceEqDiff, Nat.reduceLT, Nat.reduceLeDiff, reduceCtorEq, Bool.false_eq_true, Bool.not_true, Bool.not_false, and_self, Nat.le_refl] <;> rfl) (by rw [flat_len Sl.enc_len, hcl]; exact (Nat.zero_add _).symm) rfl (fun es f h e he => by
      simp only [fw0, fw1, fw2, fw3, fw4, fw5, fw6, fw7, ↓reduceIte, Nat.reduceAdd, Nat.reduceMul, Nat.reduceEqDiff, Nat.reduceLT, Nat.reduceLeDiff, reduceCtorEq, Bool.false_eq_true, Bool.not_true, Bool.not_false, and_self, Nat.le_refl, PV.vec.injEq] at h
      obtain ⟨rfl, rfl⟩ := h
      simp only [List.mem_singleton] at he
      subst he; rfl) rfl (by show (j + 1) * 24 ≤ _; omega) (by show j + 1 ≤ _; omega) ?_)
    refine aops_run 1 (by simp only [fw0, fw1, fw2, fw3, fw4, fw5, fw6, fw7, ↓reduceIte, Nat.reduceAdd, Nat.reduceMul, Nat.reduceEqDiff, Nat.reduceLT, Nat.reduceLeDiff, reduceCtorEq, Bool.false_eq_true, Bool.not_true, Bool.not_false, and_self, Nat.le_refl] <;> rfl) ?_
    -- region 15
    refine awp_region rfl ?_
    refine aops_run 6 (by simp only [fw0, fw1, fw2, fw3, fw4, fw5, fw6, fw7, ↓reduceIte, Nat.reduceAdd, Nat.reduceMul, Nat.reduceEqDiff, Nat.reduceLT, Nat.reduceLeDiff, reduceCtorEq, Bool.false_eq_true, Bool.not_true, Bool.not_false, and_self, Nat.le_refl, fl124_0, ti9, ti70, pl70, Dl.fw] <;> rfl) ?_
    refine aops_fnLe rfl rfl rfl en48 (c48 Γ (p.ins.zipIdx.map (inB ins) ++ (p.cells.take j).map cellB) p.cells[j].name (cellV p.cells[j].name) (by simp; unfold reachBytes; omega)) ?_ ?_
    · exact ⟨PV.le_refl _, rfl, cell_le _, trivial⟩
    refine aops_run 1 (by simp only [fw0, fw1, fw2, fw3, fw4, fw5, fw6, fw7, ↓reduceIte, Nat.reduceAdd, Nat.reduceMul, Nat.reduceEqDiff, Nat.reduceLT, Nat.reduceLeDiff, reduceCtorEq, Bool.false_eq_true, Bool.not_true, Bool.not_false, and_self, Nat.le_refl] <;> rfl) ?_
    -- region 12
    refine awp_run rfl (by simp only [fw0, fw1, fw2, fw3, fw4, fw5, fw6, fw7, ↓reduceIte, Nat.reduceAdd, Nat.reduceMul, Nat.reduceEqDiff, Nat.reduceLT, Nat.reduceLeDiff, reduceCtorEq, Bool.false_eq_true, Bool.not_true, Bool.not_false, and_self, Nat.le_refl, wrapS j (by omega)] <;> rfl) ?_
    refine ⟨j + 1, [.box p.cells[j].enc], by omega, by omega, by rw [map_take hjl cellB, ← List.append_assoc]; rfl, by rw [map_take hjl slot]; simp [slot, Sl.enc], rfl, by simp⟩
  simp only [hcj, decide_false, Bool.false_eq_true, ↓reduceIte]
  refine awp_exit ?_
  have hje : j = p.cells.length := by omega
  subst hje
  rw [List.take_length]
  simp only [Post.block, Post.then, ↓reduceIte]
  generalize hcells : p.cells.map slot = cells
  have hcn : cells.length = p.cells.length := by rw [← hcells]; simp
  have hl : ((cells.map Sl.enc).flatten).length = p.cells.length * 2 := by rw [flat_len Sl.enc_len, hcn]
  have hch : chunk 2 p.cells.length ((cells.map Sl.enc).flatten) = cells.map Sl.enc := by rw [← hcn]; exact flat_chunk Sl.enc_len cells
  have henv0 : p.ins.zipIdx.map (inB ins) ++ p.cells.map cellB = env0 p ins := rfl
  rw [henv0]
  refine awp_keep (A' := [(2, .int .i64 f), (3, .ptr H.length 0), (6, .ptr (H.length + 1) 0), (7, .vec ((env0 p ins).map Bd.enc) false), (8, .row (H.length + 2) 0 p.cells.length 2)]) [2, 3, 6, 7, 8] rfl ?_
  refine awp_told (told_freezeR (H.length + 2) (sz := 2) (C := (cells.map Sl.enc).flatten) (H2 := H ++ [.box p.enc, .box resZ, .dead]) (by rw [Fw.get_at]; rfl) (flat_bd (fun s => by simp only [Sl.fw]) _) (by simp) (fun k B hB => ⟨B, by rw [Fw.set_at]; exact hB, .inl rfl⟩)) ?_
  refine awp_keep (A' := [(2, .int .i64 f), (3, .ptr H.length 0), (6, .ptr (H.length + 1) 0), (7, .vec ((env0 p ins).map Bd.enc) false), (8, .vec (cells.map Sl.enc) false)]) [2, 3, 6, 7, 8] (by simp [akeep, alook, frz, hl, hch]) ?_
  refine awp_seq ?_
  refine awp_seq ?_
  -- region 16
  refine awp_run rfl (by simp only [fw0, fw1, fw2, fw3, fw4, fw5, fw6, fw7, ↓reduceIte, Nat.reduceAdd, Nat.reduceMul, Nat.reduceEqDiff, Nat.reduceLT, Nat.reduceLeDiff, reduceCtorEq, Bool.false_eq_true, Bool.not_true, Bool.not_false, and_self, Nat.le_refl] <;> rfl) ?_
  refine awp_block ?_
  refine awp_forG [2, 3, 6, 7, 8, 13] (fun s : Nat × List Bd => [.int .i64 f, .ptr H.length 0, .ptr (H.length + 1) 0, .vec (s.2.map Bd.enc) false, .vec (cells.map Sl.enc) false, .int .i64 s.1])
    (fun _ => H ++ [.box p.enc, .box resZ, .dead]) (fun s => p.defs.length - s.1) (fun s => s.1 ≤ p.defs.length ∧ EL (p.ins.length + p.cells.length + s.1) s.2 ∧ defsEnv p.defs (env0 p ins) = defsEnv (p.defs.drop s.1) s.2) (0, env0 p ins) (by simp [alook, aput, ev]) rfl ⟨Nat.zero_le _, env0_EL p ins, rfl⟩
    (fun s _ => ⟨bd_app hbdH (by simp only [List.all_cons, List.all_nil, Blk.bd, Pg.fw, resZ_bd, Bool.and_true]), by simp [PV.bdL, PV.bd]⟩) (fun j _ b hb => by cases hb) fun s hs => ?_
  obtain ⟨k, env⟩ := s
  obtain ⟨hk, hE, hD⟩ := hs
  dsimp only at hk hE hD ⊢
  refine awp_seq ?_
  refine awp_seq ?_
  -- region 17
  refine awp_run rfl (by simp only [fw0, fw1, fw2, fw3, fw4, fw5, fw6, fw7, ↓reduceIte, Nat.reduceAdd, Nat.reduceMul, Nat.reduceEqDiff, Nat.reduceLT, Nat.reduceLeDiff, reduceCtorEq, Bool.false_eq_true, Bool.not_true, Bool.not_false, and_self, Nat.le_refl, fl83_2, ti81, un81, Pg.fw, List.length_map] <;> rfl) ?_
  refine awp_cond (by simp only [fw0, fw1, fw2, fw3, fw4, fw5, fw6, fw7, ↓reduceIte, Nat.reduceAdd, Nat.reduceMul, Nat.reduceEqDiff, Nat.reduceLT, Nat.reduceLeDiff, reduceCtorEq, Bool.false_eq_true, Bool.not_true, Bool.not_false, and_self, Nat.le_refl] <;> rfl) ?_
  by_cases hck : (k : Int) < p.defs.length
  rotate_left
  · simp only [hck, decide_false, Bool.false_eq_true, ↓reduceIte]
    refine awp_exit ?_
    have hke : k = p.defs.length := by omega
    rw [hke, List.drop_length] at hD
    have hrun : runP p ins f = run 100000 p.body env cells (capF f) := by
      unfold runP
      rw [hD, hcells]
      rfl
    rw [hrun]
    simp only [Post.block, Post.then, ↓reduceIte]
    refine awp_seq ?_
    -- region 23
    refine awp_region rfl ?_
    refine aops_run 5 (by simp only [fw0, fw1, fw2, fw3, fw4, fw5, fw6, fw7, ↓reduceIte, Nat.reduceAdd, Nat.reduceMul, Nat.reduceEqDiff, Nat.reduceLT, Nat.reduceLeDiff, reduceCtorEq, Bool.false_eq_true, Bool.not_true, Bool.not_false, and_self, Nat.le_refl, fl83_3, ti67, Pg.fw, Tm.fw] <;> rfl) ?_
    refine aops_fn rfl rfl rfl en23 (c23 Γ (B := big) (by decide) 99999 (by decide) p.body env cells f (capF_le f) (by have := capF_le f; unfold big; omega) (EL_mono (by have := capF_le f; unfold big; omega) hE) (by rw [hcn]; unfold reachBytes; omega)) ?_
    refine aops_run 1 (by simp only [fw0, fw1, fw2, fw3, fw4, fw5, fw6, fw7, ↓reduceIte, Nat.reduceAdd, Nat.reduceMul, Nat.reduceEqDiff, Nat.reduceLT, Nat.reduceLeDiff, reduceCtorEq, Bool.false_eq_true, Bool.not_true, Bool.not_false, and_self, Nat.le_refl, ti73, resE_fw, resZ] <;> rfl) ?_
    refine awp_ret ?_
    refine gives_end (.inl rfl) _ ?_
    simp [ares, aresL, ares1, rd, ev, alook, aput, Tryd.f28, ti73, resE_fw]
  simp only [hck, decide_true, ↓reduceIte]
  refine awp_skip ?_
  have hkl : k < p.defs.length := by omega
  have gk : p.defs[k]? = some p.defs[k] := List.getElem?_eq_getElem hkl
  have hdk : p.defs.drop k = p.defs[k] :: p.defs.drop (k + 1) := List.drop_eq_getElem_cons hkl
  generalize hdd : p.defs[k] = dd at gk hdk
  refine awp_seq ?_
  refine awp_block ?_
  refine awp_seq ?_
  -- region 19
  refine awp_run rfl (by simp only [fw0, fw1, fw2, fw3, fw4, fw5, fw6, fw7, ↓reduceIte, Nat.reduceAdd, Nat.reduceMul, Nat.reduceEqDiff, Nat.reduceLT, Nat.reduceLeDiff, reduceCtorEq, Bool.false_eq_true, Bool.not_true, Bool.not_false, and_self, Nat.le_refl, fl83_2, ti81, el81, fl127_1, ti67, Pg.fw, Df.fw, Tm.fw, List.getElem?_map, gk, Option.map_some, Int.natCast_nonneg] <;> rfl) ?_
  have hbad : (dd.t.kind ≠ 3 ∨ dd.t.kids.length ≠ 1) → runP p ins f = ⟨3, zeroV, cells, capF f⟩ := fun h => by
    unfold runP
    rw [hD, hdk]
    simp only [defsEnv, if_pos h, hcells]
  refine awp_seq ?_
  refine awp_seq ?_
  -- region 20
  by_cases k3 : dd.t.kind = 3
  rotate_left
  · refine awp_run rfl (by simp only [fw0, fw1, fw2, fw3, fw4, fw5, fw6, fw7, ↓reduceIte, Nat.reduceAdd, Nat.reduceMul, Nat.reduceEqDiff, Nat.reduceLT, Nat.reduceLeDiff, reduceCtorEq, Bool.false_eq_true, Bool.not_true, Bool.not_false, and_self, Nat.le_refl, fl67_0, ti3, fl67_3, ti65, un65, Df.fw, Tm.fw, k3, decide_false, Bool.not_false] <;> rfl) ?_
    refine awp_cond (b := true) rfl ?_
    rw [hbad (.inl k3)]
    refine awp_seq ?_
    -- region 21
    refine awp_region rfl ?_
    refine aops_run 2 (by simp only [fw0, fw1, fw2, fw3, fw4, fw5, fw6, fw7, ↓reduceIte, Nat.reduceAdd, Nat.reduceMul, Nat.reduceEqDiff, Nat.reduceLT, Nat.reduceLeDiff, reduceCtorEq, Bool.false_eq_true, Bool.not_true, Bool.not_false, and_self, Nat.le_refl] <;> rfl) ?_
    refine aops_one rfl (os_min rfl rfl rfl ?_)
    rw [show (if (100000 : Int) < f then (100000 : Int) else f) = capF f from rfl]
    refine aops_run 2 (by simp only [fw0, fw1, fw2, fw3, fw4, fw5, fw6, fw7, ↓reduceIte, Nat.reduceAdd, Nat.reduceMul, Nat.reduceEqDiff, Nat.reduceLT, Nat.reduceLeDiff, reduceCtorEq, Bool.false_eq_true, Bool.not_true, Bool.not_false, and_self, Nat.le_refl, ti73, pl73, resZ] <;> rfl) ?_
    refine awp_told (told_leBox (H.length + 1) (cs := .int .i64 3 :: (zeroVP ++ [.vec (cells.map Sl.enc) false, .int .i64 (capF f)])) (by rw [Fw.get_at]; rfl) (resZ_le cells (capF f))) ?_
    refine awp_heap (H' := H ++ [.box p.enc, .box (resE ⟨3, zeroV, cells, capF f⟩), .dead, .box dd.t.enc]) (by rw [Fw.set_at]; rfl) ?_
    refine awp_ret ?_
    refine gives_end (.inl rfl) _ ?_
    simp [ares, aresL, ares1, rd, ev, alook, aput, Tryd.f28, ti73, resE_fw]
  by_cases kl : dd.t.kids.length = 1
  rotate_left
  · have kl' : ¬ ((dd.t.kids.length : Int) = 1) := by omega
    refine awp_run rfl (by simp only [fw0, fw1, fw2, fw3, fw4, fw5, fw6, fw7, ↓reduceIte, Nat.reduceAdd, Nat.reduceMul, Nat.reduceEqDiff, Nat.reduceLT, Nat.reduceLeDiff, reduceCtorEq, Bool.false_eq_true, Bool.not_true, Bool.not_false, and_self, Nat.le_refl, fl67_0, ti3, fl67_3, ti65, un65, Df.fw, Tm.fw, k3, decide_true, Bool.not_true, List.length_map, kl', decide_false, Bool.not_false] <;> rfl) ?_
    refine awp_cond (b := true) rfl ?_
    rw [hbad (.inr kl)]
    refine awp_seq ?_
    -- region 21
    refine awp_region rfl ?_
    refine aops_run 2 (by simp only [fw0, fw1, fw2, fw3, fw4, fw5, fw6, fw7, ↓reduceIte, Nat.reduceAdd, Nat.reduceMul, Nat.reduceEqDiff, Nat.reduceLT, Nat.reduceLeDiff, reduceCtorEq, Bool.false_eq_true, Bool.not_true, Bool.not_false, and_self, Nat.le_refl] <;> rfl) ?_
    refine aops_one rfl (os_min rfl rfl rfl ?_)
    rw [show (if (100000 : Int) < f then (100000 : Int) else f) = capF f from rfl]
    refine aops_run 2 (by simp only [fw0, fw1, fw2, fw3, fw4, fw5, fw6, fw7, ↓reduceIte, Nat.reduceAdd, Nat.reduceMul, Nat.reduceEqDiff, Nat.reduceLT, Nat.reduceLeDiff, reduceCtorEq, Bool.false_eq_true, Bool.not_true, Bool.not_false, and_self, Nat.le_refl, ti73, pl73, resZ] <;> rfl) ?_
    refine awp_told (told_leBox (H.length + 1) (cs := .int .i64 3 :: (zeroVP ++ [.vec (cells.map Sl.enc) false, .int .i64 (capF f)])) (by rw [Fw.get_at]; rfl) (resZ_le cells (capF f))) ?_
    refine awp_heap (H' := H ++ [.box p.enc, .box (resE ⟨3, zeroV, cells, capF f⟩), .dead, .box dd.t.enc]) (by rw [Fw.set_at]; rfl) ?_
    refine awp_ret ?_
    refine gives_end (.inl rfl) _ ?_
    simp [ares, aresL, ares1, rd, ev, alook, aput, Tryd.f28, ti73, resE_fw]
  have kl' : ((dd.t.kids.length : Int) = 1) := by omega
  have hk0 : 0 < dd.t.kids.length := by omega
  refine awp_run rfl (by simp only [fw0, fw1, fw2, fw3, fw4, fw5, fw6, fw7, ↓reduceIte, Nat.reduceAdd, Nat.reduceMul, Nat.reduceEqDiff, Nat.reduceLT, Nat.reduceLeDiff, reduceCtorEq, Bool.false_eq_true, Bool.not_true, Bool.not_false, and_self, Nat.le_refl, fl67_0, ti3, fl67_3, ti65, un65, Df.fw, Tm.fw, k3, decide_true, Bool.not_true, List.length_map, kl'] <;> rfl) ?_
  refine awp_cond (b := false) rfl ?_
  refine awp_skip ?_
  have g48 := c48 Γ env dd.name (funV dd.t.name (kid dd.t 0) env) (by have := hE.1; unfold reachBytes; omega)
  rw [fun_enc] at g48
  -- region 22 drawn
  refine awp_drawn [0, 0, 1, 0, 0, 0, 1, 0, 1, 0, 1, 0, 1, 0, 0, 0, 0] [0, 0, 2, 0, 14, 30, 62, 0, 128, 0, 512, 1536, 3584, 0, 16256, 32767, 65535] mixed rfl (by kernel_rfl) ?_
  refine dops_run 15 (by simp only [fw0, fw1, fw2, fw3, fw4, fw5, fw6, fw7, ↓reduceIte, Nat.reduceAdd, Nat.reduceMul, Nat.reduceEqDiff, Nat.reduceLT, Nat.reduceLeDiff, reduceCtorEq, Bool.false_eq_true, Bool.not_true, Bool.not_false, and_self, Nat.le_refl, fl83_2, ti81, el81, fl127_0, ti9, fl67_1, fl67_3, ti65, el65, ti67, ti70, pl70, Pg.fw, Df.fw, Tm.fw, List.getElem?_map, gk, Int.natCast_nonneg, Int.reduceToNat, Int.reduceLE, true_and, kid_get hk0, Option.map_some] <;> rfl) ?_
  refine dops_fn rfl rfl rfl rfl en48 g48 ?_
  refine dops_run 1 (by simp only [fw0, fw1, fw2, fw3, fw4, fw5, fw6, fw7, ↓reduceIte, Nat.reduceAdd, Nat.reduceMul, Nat.reduceEqDiff, Nat.reduceLT, Nat.reduceLeDiff, reduceCtorEq, Bool.false_eq_true, Bool.not_true, Bool.not_false, and_self, Nat.le_refl] <;> rfl) ?_
  refine dops_end ?_
  -- region 18
  refine awp_run rfl (by simp only [fw0, fw1, fw2, fw3, fw4, fw5, fw6, fw7, ↓reduceIte, Nat.reduceAdd, Nat.reduceMul, Nat.reduceEqDiff, Nat.reduceLT, Nat.reduceLeDiff, reduceCtorEq, Bool.false_eq_true, Bool.not_true, Bool.not_false, and_self, Nat.le_refl, wrapS k (by omega)] <;> rfl) ?_
  refine ⟨(k + 1, env ++ [.mk dd.name (funV dd.t.name (kid dd.t 0) env)]), [.box dd.t.enc], by dsimp only; omega, ⟨by dsimp only; omega, EL_bind hE (by dsimp only; omega) (EB_mono (by omega) (funV_EB hE _ _)) _, ?_⟩, rfl, by simp, rfl, Nat.le_refl _⟩
  rw [hD, hdk]
  simp only [defsEnv, if_neg (show ¬ (dd.t.kind ≠ 3 ∨ dd.t.kids.length ≠ 1) by simp [k3, kl])]

end Go.Proofs.YtnjlfbefpoecpaaDoor

/- The document's run: results compared. -/
namespace Go.Proofs.YtnjlfbefpoecpaaDoor
set_option linter.unusedVariables false
set_option linter.unusedSimpArgs false
set_option maxRecDepth 100000
open Go.RowKit Fw

theorem resG_fw : (∀ r : Res, (resE r).drop 4 = r.v.t.enc ++ ([.vec (r.v.env.map Bd.enc) false] ++ [.vec (r.c.map Sl.enc) false, .int .i64 r.f])) ∧ (∀ r : Res, (resE r).drop 8 = [.vec (r.v.env.map Bd.enc) false, .vec (r.c.map Sl.enc) false, .int .i64 r.f]) := by
  refine ⟨fun r => ?_, fun r => ?_⟩
  · simp only [resE, Val.enc_eq, List.cons_append, List.append_assoc, List.drop_succ_cons, List.drop_zero]
  · simp only [resE, Val.enc_eq, Tm.enc_eq]; rfl
theorem tm_take (t : Tm) (l : List PV) (k : Nat) : (t.enc ++ l).take (k + 4) = t.enc ++ l.take k := by
  rw [List.take_append, Tm.enc_len, List.take_of_length_le (by rw [Tm.enc_len]; omega)]; simp
theorem bdK_fw : (∀ b : Bd, b.enc.drop 1 = b.v.enc) ∧ (∀ b : Bd, b.enc.drop 2 = .int .i64 b.v.n :: .str b.v.name :: (b.v.t.enc ++ [.vec (b.v.env.map Bd.enc) false])) := by
  refine ⟨fun b => by rw [Bd.enc_eq]; rfl, fun b => ?_⟩
  rw [Bd.enc_eq, Val.enc_eq]; rfl

/-- sameResult, of results that are the same -/
theorem c27 (Γ : Nat → PV) (r : Res) (ht : r.v.t.KOk) (hc : r.c.length * 24 ≤ reachBytes) : Gives Tryd.prog Γ 27 [.agg (resE r), .agg (resE r)] (.bool true) := by
  refine fn_of_awp Tryd.func27 rfl (by simp [Tryd.f27]) rfl fun H => ?_
  refine awp_seq ?_
  -- region 0
  refine awp_run rfl (by simp only [fw0, fw1, fw2, fw3, fw4, fw5, fw6, fw7, ↓reduceIte, Nat.reduceAdd, Nat.reduceMul, Nat.reduceEqDiff, Nat.reduceLT, Nat.reduceLeDiff, reduceCtorEq, Bool.false_eq_true, Bool.not_true, Bool.not_false, and_self, Nat.le_refl, resE_fw] <;> rfl) ?_
  refine awp_seq ?_
  refine awp_seq ?_
  -- region 1 drawn
  refine awp_drawn [0, 0, 1, 0, 0, 1, 0, 0, 0, 0, 1, 0, 0, 1, 0, 0, 0, 0, 0, 1, 0, 0, 1, 0, 0, 0, 0, 0, 1, 0, 0, 0, 1, 0, 0, 0, 0, 0, 0, 1, 0, 0, 0, 1, 0, 0, 0] [0, 1, 3, 0, 8, 24, 63, 127, 255, 511, 1023, 255, 2303, 6399, 16383, 32767, 65535, 131071, 262143, 524287, 131071, 1179647, 3276799, 8388607, 16777215, 33554431, 67108863, 134217727, 268435455, 536870911, 67108863, 1140850687, 3288334335, 8589934591, 17179869183, 34359738367, 68719476735, 137438953471, 274877906943, 549755813887, 1099511627775, 137438953471, 2336462209023, 6734508720127, 15530601742335, 35184372088831, 70368744177663] mixed rfl (by kernel_rfl) ?_
  refine dops_run 29 (by simp only [fw0, fw1, fw2, fw3, fw4, fw5, fw6, fw7, ↓reduceIte, Nat.reduceAdd, Nat.reduceMul, Nat.reduceEqDiff, Nat.reduceLT, Nat.reduceLeDiff, reduceCtorEq, Bool.false_eq_true, Bool.not_true, Bool.not_false, and_self, Nat.le_refl, ti67, ti65, el65, ti73, ti71, ti3, ti70, ti9, ti2, ti68, fl67_0, fl67_1, fl67_2, fl67_3, fl73_0, fl73_1, fl73_2, fl73_3, fl70_0, fl70_1, fl70_2, fl70_3, fl70_4, resE_fw, resB_fw, resD_fw, encA_fw, enc_take, Tm.fw, Val.fw, List.take_zero, List.append_nil, resG_fw, tm_take, fl47_1, fl44_0, fl44_1, fl44_2, fl44_3, ti29, decide_true, Bool.not_true] <;> rfl) ?_
  refine dops_fn rfl (by simp only [fw0, fw1, fw2, fw3, fw4, fw5, fw6, fw7, ↓reduceIte, Nat.reduceAdd, Nat.reduceMul, Nat.reduceEqDiff, Nat.reduceLT, Nat.reduceLeDiff, reduceCtorEq, Bool.false_eq_true, Bool.not_true, Bool.not_false, and_self, Nat.le_refl] <;> rfl) rfl rfl en24 (c24k Γ r.v.t ht) ?_
  refine dops_run 3 (by simp only [fw0, fw1, fw2, fw3, fw4, fw5, fw6, fw7, ↓reduceIte, Nat.reduceAdd, Nat.reduceMul, Nat.reduceEqDiff, Nat.reduceLT, Nat.reduceLeDiff, reduceCtorEq, Bool.false_eq_true, Bool.not_true, Bool.not_false, and_self, Nat.le_refl, ti67, ti65, el65, ti73, ti71, ti3, ti70, ti9, ti2, ti68, fl67_0, fl67_1, fl67_2, fl67_3, fl73_0, fl73_1, fl73_2, fl73_3, fl70_0, fl70_1, fl70_2, fl70_3, fl70_4, resE_fw, resB_fw, resD_fw, encA_fw, enc_take, Tm.fw, Val.fw, List.take_zero, List.append_nil, resG_fw, tm_take] <;> rfl) ?_
  refine dops_fn rfl (by simp only [fw0, fw1, fw2, fw3, fw4, fw5, fw6, fw7, ↓reduceIte, Nat.reduceAdd, Nat.reduceMul, Nat.reduceEqDiff, Nat.reduceLT, Nat.reduceLeDiff, reduceCtorEq, Bool.false_eq_true, Bool.not_true, Bool.not_false, and_self, Nat.le_refl] <;> rfl) rfl rfl en51 (c51 Γ r.v.t r.v.t) ?_
  refine dops_run 13 (by simp only [fw0, fw1, fw2, fw3, fw4, fw5, fw6, fw7, ↓reduceIte, Nat.reduceAdd, Nat.reduceMul, Nat.reduceEqDiff, Nat.reduceLT, Nat.reduceLeDiff, reduceCtorEq, Bool.false_eq_true, Bool.not_true, Bool.not_false, and_self, Nat.le_refl, ti67, ti65, el65, ti73, ti71, ti3, ti70, ti9, ti2, ti68, fl67_0, fl67_1, fl67_2, fl67_3, fl73_0, fl73_1, fl73_2, fl73_3, fl70_0, fl70_1, fl70_2, fl70_3, fl70_4, resE_fw, resB_fw, resD_fw, encA_fw, enc_take, Tm.fw, Val.fw, List.take_zero, List.append_nil, resG_fw, fl47_1, fl44_4, ti42, un42, un68, List.length_map, decide_true, Bool.not_true] <;> rfl) ?_
  refine dops_end ?_
  refine awp_cond (b := false) rfl ?_
  refine awp_skip ?_
  refine awp_keep (A' := [(2, .ptr H.length 0), (3, .ptr (H.length + 1) 0)]) [2, 3] rfl ?_
  refine awp_seq ?_
  refine awp_seq ?_
  -- region 3
  refine awp_run rfl (by simp only [fw0, fw1, fw2, fw3, fw4, fw5, fw6, fw7, ↓reduceIte, Nat.reduceAdd, Nat.reduceMul, Nat.reduceEqDiff, Nat.reduceLT, Nat.reduceLeDiff, reduceCtorEq, Bool.false_eq_true, Bool.not_true, Bool.not_false, and_self, Nat.le_refl] <;> rfl) ?_
  refine awp_block ?_
  refine awp_for [2, 3, 5] (fun i : Nat => [.ptr H.length 0, .ptr (H.length + 1) 0, .int .i64 (i : Int)]) (fun _ => H ++ [.box (resE r), .box (resE r)]) (fun i => r.v.env.length - i) (fun i => i ≤ r.v.env.length) 0 (by simp [alook, aput, ev]) rfl (Nat.zero_le _) fun i hi => ?_
  refine awp_seq ?_
  refine awp_seq ?_
  -- region 4
  refine awp_run rfl (by simp only [fw0, fw1, fw2, fw3, fw4, fw5, fw6, fw7, ↓reduceIte, Nat.reduceAdd, Nat.reduceMul, Nat.reduceEqDiff, Nat.reduceLT, Nat.reduceLeDiff, reduceCtorEq, Bool.false_eq_true, Bool.not_true, Bool.not_false, and_self, Nat.le_refl, ti67, ti65, el65, ti73, ti71, ti3, ti70, ti9, ti2, ti68, fl67_0, fl67_1, fl67_2, fl67_3, fl73_0, fl73_1, fl73_2, fl73_3, fl70_0, fl70_1, fl70_2, fl70_3, fl70_4, resE_fw, resB_fw, resD_fw, encA_fw, enc_take, Tm.fw, Val.fw, List.take_zero, List.append_nil, resG_fw, fl47_1, fl44_4, ti42, un42, List.length_map] <;> rfl) ?_
  refine awp_vlen 56 rfl fun hvl => ?_
  rw [List.length_map] at hvl
  refine awp_cond (by simp only [fw0, fw1, fw2, fw3, fw4, fw5, fw6, fw7, ↓reduceIte, Nat.reduceAdd, Nat.reduceMul, Nat.reduceEqDiff, Nat.reduceLT, Nat.reduceLeDiff, reduceCtorEq, Bool.false_eq_true, Bool.not_true, Bool.not_false, and_self, Nat.le_refl] <;> rfl) ?_
  by_cases hc : (i : Int) < r.v.env.length
  · simp only [hc, decide_true, ↓reduceIte]
    refine awp_skip ?_
    have hil : i < r.v.env.length := by omega
    have gi : r.v.env[i]? = some r.v.env[i] := List.getElem?_eq_getElem hil
    refine awp_seq ?_
    refine awp_block ?_
    refine awp_seq ?_
    -- region 6 drawn
    refine awp_drun [0, 0, 1, 0, 0, 0, 1, 0, 0, 1, 0, 0, 0, 1, 0, 0, 0, 0, 1, 0, 0, 0, 0, 1, 0, 0, 1, 0, 0, 0, 0, 1, 0, 0, 0, 0, 0, 1, 0, 0, 0, 0, 1, 0, 0, 1, 0, 0, 0, 0, 1, 0, 0] [0, 1, 3, 0, 15, 31, 63, 0, 128, 384, 0, 1920, 3968, 8064, 16383, 32767, 65535, 131071, 262143, 65535, 1048575, 2097151, 4194303, 8388607, 65535, 16842751, 50397183, 65535, 251723775, 520159231, 1057030143, 2130771967, 4294967295, 8589934591, 17179869183, 34359738367, 68719476735, 137438953471, 34359738367, 549755813887, 1099511627775, 2199023255551, 4398046511103, 34359738367, 8830452760575, 26422638804991, 34359738367, 131975755071487, 272713243426815, 554188220137471, 1117138173558783, 2251799813685247, 4503599627370495] mixed rfl (by kernel_rfl) (by simp only [fw0, fw1, fw2, fw3, fw4, fw5, fw6, fw7, ↓reduceIte, Nat.reduceAdd, Nat.reduceMul, Nat.reduceEqDiff, Nat.reduceLT, Nat.reduceLeDiff, reduceCtorEq, Bool.false_eq_true, Bool.not_true, Bool.not_false, and_self, Nat.le_refl, ti67, ti65, el65, ti73, ti71, ti3, ti70, ti9, ti2, ti68, fl67_0, fl67_1, fl67_2, fl67_3, fl73_0, fl73_1, fl73_2, fl73_3, fl70_0, fl70_1, fl70_2, fl70_3, fl70_4, resE_fw, resB_fw, resD_fw, encA_fw, enc_take, Tm.fw, Val.fw, List.take_zero, List.append_nil, resG_fw, bdK_fw, fl47_1, fl44_4, ti42, el42, fl99_0, el68, fl120_0, fl99_1, fl44_0, fl120_1, fl44_1, Bd.fw, List.getElem?_map, gi, Option.map_some, Int.natCast_nonneg, decide_true, Bool.not_true] <;> rfl) ?_
    refine awp_cond (b := false) rfl ?_
    refine awp_skip ?_
    -- region 5
    refine awp_run rfl (by simp only [fw0, fw1, fw2, fw3, fw4, fw5, fw6, fw7, ↓reduceIte, Nat.reduceAdd, Nat.reduceMul, Nat.reduceEqDiff, Nat.reduceLT, Nat.reduceLeDiff, reduceCtorEq, Bool.false_eq_true, Bool.not_true, Bool.not_false, and_self, Nat.le_refl, wrapS i (by omega)] <;> rfl) ?_
    refine ⟨i + 1, by omega, by omega, by rfl, rfl, rfl⟩
  simp only [hc, decide_false, Bool.false_eq_true, ↓reduceIte]
  refine awp_exit ?_
  simp only [Post.block, Post.then, ↓reduceIte]
  refine awp_seq ?_
  -- region 8
  refine awp_region rfl ?_
  refine aops_run 17 (by simp only [fw0, fw1, fw2, fw3, fw4, fw5, fw6, fw7, ↓reduceIte, Nat.reduceAdd, Nat.reduceMul, Nat.reduceEqDiff, Nat.reduceLT, Nat.reduceLeDiff, reduceCtorEq, Bool.false_eq_true, Bool.not_true, Bool.not_false, and_self, Nat.le_refl, ti67, ti65, el65, ti73, ti71, ti3, ti70, ti9, ti2, ti68, fl67_0, fl67_1, fl67_2, fl67_3, fl73_0, fl73_1, fl73_2, fl73_3, fl70_0, fl70_1, fl70_2, fl70_3, fl70_4, resE_fw, resB_fw, resD_fw, encA_fw, enc_take, Tm.fw, Val.fw, List.take_zero, List.append_nil, fl47_0, fl47_3, fl47_2, ti45, decide_true] <;> rfl) ?_
  have h52 := c52 Γ r.c r.c (by assumption)
  rw [decide_eq_true (rfl : r.c = r.c)] at h52
  refine aops_fnIf rfl rfl rfl rfl rfl en52 h52 ?_
  refine aops_run 2 (by simp only [fw0, fw1, fw2, fw3, fw4, fw5, fw6, fw7, ↓reduceIte, Nat.reduceAdd, Nat.reduceMul, Nat.reduceEqDiff, Nat.reduceLT, Nat.reduceLeDiff, reduceCtorEq, Bool.false_eq_true, Bool.not_true, Bool.not_false, and_self, Nat.le_refl] <;> rfl) ?_
  refine awp_ret ?_
  refine gives_end (.inl rfl) _ ?_
  simp [ares, aresL, ares1, rd, ev, alook, aput, Tryd.f27]

end Go.Proofs.YtnjlfbefpoecpaaDoor

/- The document's run: the law of what a run is. -/
namespace Go.Proofs.YtnjlfbefpoecpaaDoor
set_option linter.unusedVariables false
set_option linter.unusedSimpArgs false
set_option maxRecDepth 100000
open Go.RowKit Fw

theorem kok_mk (t : Tm) (h : t.kids.length ≤ 3) (h2 : ∀ k ∈ t.kids, k.KOk) : t.KOk := .mk t (by unfold reachBytes; omega) h2
theorem kok_num (n : Int) : (numT n).KOk := kok_mk _ (Nat.le_of_ble_eq_true rfl) (fun k h => by cases h)
theorem kok_var (s : List UInt8) : (varT s).KOk := kok_mk _ (Nat.le_of_ble_eq_true rfl) (fun k h => by cases h)
theorem kok_one (k : Int) (s : List UInt8) {a : Tm} (ha : a.KOk) : (oneT k s a).KOk := kok_mk _ (Nat.le_of_ble_eq_true rfl) (fun x hx => by
  simp only [oneT, Tm.kids, List.mem_singleton] at hx; subst hx; exact ha)
theorem kok_two (k : Int) (s : List UInt8) {a b : Tm} (ha : a.KOk) (hb : b.KOk) : (twoT k s a b).KOk := kok_mk _ (Nat.le_of_ble_eq_true rfl) (fun x hx => by
  simp only [twoT, Tm.kids, List.mem_cons, List.not_mem_nil, or_false] at hx
  rcases hx with rfl | rfl
  · exact ha
  · exact hb)
theorem kok_if {a b c : Tm} (ha : a.KOk) (hb : b.KOk) (hc : c.KOk) : (ifT a b c).KOk := kok_mk _ (Nat.le_of_ble_eq_true rfl) (fun x hx => by
  simp only [ifT, Tm.kids, List.mem_cons, List.not_mem_nil, or_false] at hx
  rcases hx with rfl | rfl | rfl
  · exact ha
  · exact hb
  · exact hc)
def Wk (W : WF) : Prop := ∀ d a I F, (W d a I F).1.KOk
theorem ofF_k (L : List Int) (a : Nat) (l : Names) : (ofF L a l).1.KOk := by
  unfold ofF
  split
  · exact kok_num _
  · exact kok_var _
theorem funF_k (L : List Int) {W : WF} (h : Wk W) : Wk (funF L W) := fun d a I F => kok_one 3 _ (h _ _ _ _)
theorem letF_k (L : List Int) {W : WF} (h : Wk W) : Wk (letF L W) := fun d a I F => by
  unfold letF
  dsimp only
  split
  · exact kok_two 5 _ (h _ _ _ _) (h _ _ _ _)
  · exact kok_two 5 _ (funF_k L h _ _ _ _) (h _ _ _ _)
theorem tryF_k (L : List Int) {W : WF} (h : Wk W) : Wk (tryF L W) := fun d a I F => kok_two 9 _ (h _ _ _ _) (h _ _ _ _)
theorem stepF_k (L : List Int) (C : Names) {W : WF} (h : Wk W) (k d : Int) (a : Nat) (I F : Names) : (stepF L C W k d a I F).1.KOk := by
  unfold stepF
  by_cases c0 : k = 0
  · rw [if_pos c0]
    exact kok_num _
  rw [if_neg c0]
  by_cases c1 : k < 4
  · rw [if_pos c1]
    exact ofF_k _ _ _
  rw [if_neg c1]
  by_cases c2 : k < 6
  · rw [if_pos c2]
    exact kok_two 12 _ (h _ _ _ _) (h _ _ _ _)
  rw [if_neg c2]
  by_cases c3 : k = 6 ∨ k = 7
  · rw [if_pos c3]
    exact kok_if (h _ _ _ _) (h _ _ _ _) (h _ _ _ _)
  rw [if_neg c3]
  by_cases c4 : k < 10
  · rw [if_pos c4]
    exact letF_k L h _ _ _ _
  rw [if_neg c4]
  by_cases c5 : k = 10 ∧ 0 < C.length
  · rw [if_pos c5]
    exact kok_one 10 _ (ofF_k _ _ _)
  rw [if_neg c5]
  by_cases c6 : k < 13 ∧ 0 < C.length
  · rw [if_pos c6]
    exact kok_two 11 _ (ofF_k _ _ _) (h _ _ _ _)
  rw [if_neg c6]
  by_cases c7 : k < 15
  · rw [if_pos c7]
    exact kok_two 13 _ (h _ _ _ _) (h _ _ _ _)
  rw [if_neg c7]
  by_cases c8 : k = 15
  · rw [if_pos c8]
    exact kok_one 8 _ (h _ _ _ _)
  rw [if_neg c8]
  by_cases c9 : k = 16
  · rw [if_pos c9]
    exact tryF_k L h _ _ _ _
  rw [if_neg c9]
  by_cases c10 : k < 19 ∧ 0 < F.length
  · rw [if_pos c10]
    exact kok_two 4 _ (ofF_k _ _ _) (h _ _ _ _)
  rw [if_neg c10]
  by_cases c11 : k = 19 ∧ (byteF L a).1.tmod 4 = 0
  · rw [if_pos c11]
    exact kok_two 7 _ (h _ _ _ _) (h _ _ _ _)
  rw [if_neg c11]
  exact kok_two 4 _ (funF_k L h _ _ _ _) (h _ _ _ _)
theorem wholeF_k (L : List Int) (C : Names) (n : Nat) : Wk (wholeF L C n) := by
  induction n with
  | zero => exact fun _ _ _ _ => kok_zero
  | succ n ih => exact fun d a I F => by rw [wholeF_step]; exact stepF_k L C ih _ _ _ _ _
theorem defsF_k (L : List Int) (I C : Names) (a i : Nat) : ∀ d ∈ (defsF L I C a i).1, d.t.KOk := by
  induction i with
  | zero => exact fun d h => by cases h
  | succ i ih =>
    intro d hd
    rw [defsF_succ] at hd
    rcases List.mem_append.1 hd with hd | hd
    · exact ih d hd
    · simp only [List.mem_singleton] at hd
      subst hd
      exact funF_k L (wholeF_k L C 10) _ _ _ _
theorem wellF_k (l : List Int) {n : Int} (h0 : 0 ≤ n) : PgKOk (wellF loHi l n) := by
  have h := wellF_ok loHi l h0
  have h1 := h.ins
  have h2 := h.cells
  have h3 := h.ndefs
  exact ⟨by omega, by omega, by omega, defsF_k _ _ _ _ _, wholeF_k _ _ _ _ _ _ _⟩
theorem fewF_k {p : Pg} (h1 : ∀ d ∈ p.defs, d.t.KOk) (h2 : p.body.KOk) (z : Int) : PgKOk (fewF p z) := by
  have c1 : (cutP p).ins.length ≤ 6 := by show (p.ins.take 6).length ≤ 6; rw [List.length_take]; omega
  have c2 : (cutP p).cells.length ≤ 6 := by show (p.cells.take 6).length ≤ 6; rw [List.length_take]; omega
  have c3 : (cutP p).defs.length ≤ 3 := by show (p.defs.take 3).length ≤ 3; rw [List.length_take]; omega
  unfold fewF
  split
  · exact ⟨by show (cutP p).ins.length ≤ _; omega, by show (cutP p).cells.length ≤ _; omega, Nat.zero_le _, (fun d h => by cases h), kok_num 0⟩
  · exact ⟨by omega, by omega, by omega, fun d hd => h1 d (List.mem_of_mem_take hd), h2⟩
theorem fewF_small (p : Pg) (z : Int) : (fewF p z).ins.length + (fewF p z).cells.length + (fewF p z).defs.length ≤ 1000 := by
  have c1 : (cutP p).ins.length ≤ 6 := by show (p.ins.take 6).length ≤ 6; rw [List.length_take]; omega
  have c2 : (cutP p).cells.length ≤ 6 := by show (p.cells.take 6).length ≤ 6; rw [List.length_take]; omega
  have c3 : (cutP p).defs.length ≤ 3 := by show (p.defs.take 3).length ≤ 3; rw [List.length_take]; omega
  unfold fewF
  split
  · show (cutP p).ins.length + (cutP p).cells.length + 0 ≤ 1000; omega
  · omega

/-- A runner that keeps the number of cells. -/
def Cl (rn : Runner) : Prop := ∀ t env c f, (rn t env c f).c.length = c.length
section
variable {rn : Runner}
theorem bothR_cl (h : Cl rn) (t : Tm) (a b : Val) (c : List Sl) (f : Int) : (bothR rn t a b c f).c.length = c.length := by
  unfold bothR
  split
  · split
    · exact h _ _ _ _
    · rfl
  · split
    · split
      · exact write_len
      · rfl
    · split <;> rfl
theorem behindR_cl (h : Cl rn) (t : Tm) (env : List Bd) (a : Val) (c : List Sl) (f : Int) : (behindR rn t env a c f).c.length = c.length := by
  unfold behindR
  split
  · exact h _ _ _ _
  · split
    · exact h _ _ _ _
    · split
      · split
        · split <;> exact h _ _ _ _
        · rfl
      · split
        · split <;> rfl
        · split
          · split <;> rfl
          · dsimp only
            split
            · rw [bothR_cl h]; exact h _ _ _ _
            · exact h _ _ _ _
theorem loopR_cl (h : Cl rn) (t : Tm) (env : List Bd) (c : List Sl) (f : Int) : (loopR rn t env c f).c.length = c.length := by
  unfold loopR
  have h0 := h (kid t 0) env c f
  dsimp only
  split
  · split
    · split
      · exact h0
      · have h1 := h (kid t 1) env (rn (kid t 0) env c f).c (rn (kid t 0) env c f).f
        split
        · rw [h, h1, h0]
        · rw [h1, h0]
    · exact h0
  · exact h0
theorem stepR_cl (h : Cl rn) (t : Tm) (env : List Bd) (c : List Sl) (f : Int) : (stepR rn t env c f).c.length = c.length := by
  unfold stepR
  split
  · rfl
  · split
    · split <;> rfl
    · split
      · rfl
      · split
        · exact loopR_cl h _ _ _ _
        · have h0 := h (kid t 0) env c f
          dsimp only
          split
          · split
            · rw [h, h0]
            · exact h0
          · split
            · rw [behindR_cl h, h0]
            · exact h0
end
theorem run_cl (n : Nat) : Cl (run n) := by
  induction n with
  | zero => exact fun _ _ _ _ => rfl
  | succ n ih =>
    intro t env c f
    by_cases h0 : f ≤ 0
    · rw [run_spent h0]
    · simp only [run, if_neg h0]
      split
      · exact stepR_cl ih _ _ _ _
      · rfl
theorem runP_cl (p : Pg) (ins : List Int) (f : Int) : (runP p ins f).c.length = p.cells.length := by
  unfold runP
  split
  · show (p.cells.map slot).length = _; rw [List.length_map]
  · rw [run_cl, List.length_map]
theorem env0_oe (p : Pg) (ins : List Int) : OE (env0 p ins) := fun b hb => by
  rcases List.mem_append.1 hb with h | h
  · obtain ⟨x, _, rfl⟩ := List.mem_map.1 h
    exact ov_whole _
  · obtain ⟨x, _, rfl⟩ := List.mem_map.1 h
    exact .mk _ kok_zero (fun b h => by cases h)
theorem defsEnv_oe : ∀ {ds : List Df} {env env' : List Bd}, (∀ d ∈ ds, d.t.KOk) → OE env → defsEnv ds env = some env' → OE env'
  | [], env, env', _, he, h => by cases h; exact he
  | d :: ds, env, env', hd, he, h => by
    rw [defsEnv] at h
    split at h
    · cases h
    · exact defsEnv_oe (fun x hx => hd x (by simp [hx])) (he.bind _ (ov_fun ((hd d (by simp)).kid 0) he)) h
theorem runP_ov {p : Pg} (hp : PgKOk p) (ins : List Int) (f : Int) : OV (runP p ins f).v := by
  unfold runP
  split
  · exact ov_zero
  · rename_i env h
    exact run_ov _ _ _ _ _ hp.body (defsEnv_oe hp.defs (env0_oe p ins) h)

theorem fuel_ok {f : Int} (h : 300 < f) : -9223372036854775808 ≤ IntKind.i64.wrap (100000 + f.tmod 2) := by
  have h1 := Int.tmod_lt_of_pos f (show (0 : Int) < 2 by decide)
  have h2 := Int.tmod_nonneg 2 (show 0 ≤ f by omega)
  rw [wrapId ⟨by omega, by omega⟩]
  omega

theorem resF_fw : ∀ r : Res, (resE r)[10]? = some (.int .i64 r.f) := fun r => by
  have := congrArg (fun l => l[0]?) (resE_fw.2.2.2.2.2.2 r)
  simpa using this

/-- EvalTells -/
theorem c8 (Γ : Nat → PV) (hΓ : TabK Γ) (t : Tm) (ht : t.KOk) (env : List Bd) (he1 : EL 1000000000 env) (he2 : ∀ b ∈ env, b.Ok) (he3 : OE env) (c : List Sl) (hc : c.length * 24 ≤ reachBytes) (f : Int) (hf : -9223372036854775808 ≤ f) (p : Pg) (hp1 : ∀ d ∈ p.defs, d.t.KOk) (hp2 : p.body.KOk) (ins : List Int) (l : List Int) (hl : ∀ x ∈ l, 0 ≤ x ∧ x < 256) (n : Int) (hn0 : 0 ≤ n) (hn1 : n < 256) :
    Gives Tryd.prog Γ 8 [.agg t.enc, .vec (env.map Bd.enc) false, .vec (c.map Sl.enc) false, .int .i64 f, .agg p.enc, insV ins, bytesV l, .int .u8 n] (.bool true) := by
  refine fn_of_awp Tryd.func8 rfl (by simp [Tryd.f8]) rfl fun H => ?_
  refine awp_seq ?_
  -- region 0
  refine awp_run rfl (by simp only [fw0, fw1, fw2, fw3, fw4, fw5, fw6, fw7, ↓reduceIte, Nat.reduceAdd, Nat.reduceMul, Nat.reduceEqDiff, Nat.reduceLT, Nat.reduceLeDiff, reduceCtorEq, Bool.false_eq_true, Bool.not_true, Bool.not_false, and_self, Nat.le_refl, Tm.fw, Pg.fw] <;> rfl) ?_
  refine awp_seq ?_
  -- region 1
  refine awp_region rfl ?_
  refine aops_fn rfl rfl rfl en9 (c9 Γ hΓ) ?_
  refine aops_run 1 (by simp only [fw0, fw1, fw2, fw3, fw4, fw5, fw6, fw7, ↓reduceIte, Nat.reduceAdd, Nat.reduceMul, Nat.reduceEqDiff, Nat.reduceLT, Nat.reduceLeDiff, reduceCtorEq, Bool.false_eq_true, Bool.not_true, Bool.not_false, and_self, Nat.le_refl] <;> rfl) ?_
  refine awp_seq ?_
  refine awp_seq ?_
  -- region 2
  refine awp_run rfl (by simp only [fw0, fw1, fw2, fw3, fw4, fw5, fw6, fw7, ↓reduceIte, Nat.reduceAdd, Nat.reduceMul, Nat.reduceEqDiff, Nat.reduceLT, Nat.reduceLeDiff, reduceCtorEq, Bool.false_eq_true, Bool.not_true, Bool.not_false, and_self, Nat.le_refl] <;> rfl) ?_
  refine awp_cond (b := false) rfl ?_
  refine awp_skip ?_
  refine awp_seq ?_
  refine AWP.mono (Q := fun e A' H' D' => e = .normal ∧ ∃ g : Int, -9223372036854775808 ≤ g ∧ akeep [1, 2, 3, 5, 6, 7, 8, 12, 17] A' = [(1, .vec (env.map Bd.enc) false), (2, .vec (c.map Sl.enc) false), (3, .int .i64 g), (5, insV ins), (6, bytesV l), (7, .int .u8 n), (8, .ptr H.length 0), (12, .ptr (H.length + 1) 0), (17, .bool true)] ∧ H' = H ++ [.box t.enc, .box p.enc] ∧ D' = []) ?_ fun e A' H' D' hq => ?_
  · refine awp_seq ?_
    -- region 4
    refine awp_run rfl (by simp only [fw0, fw1, fw2, fw3, fw4, fw5, fw6, fw7, ↓reduceIte, Nat.reduceAdd, Nat.reduceMul, Nat.reduceEqDiff, Nat.reduceLT, Nat.reduceLeDiff, reduceCtorEq, Bool.false_eq_true, Bool.not_true, Bool.not_false, and_self, Nat.le_refl] <;> rfl) ?_
    refine awp_cond (by simp only [fw0, fw1, fw2, fw3, fw4, fw5, fw6, fw7, ↓reduceIte, Nat.reduceAdd, Nat.reduceMul, Nat.reduceEqDiff, Nat.reduceLT, Nat.reduceLeDiff, reduceCtorEq, Bool.false_eq_true, Bool.not_true, Bool.not_false, and_self, Nat.le_refl] <;> rfl) ?_
    by_cases h3 : 300 < f
    · simp only [h3, decide_true, ↓reduceIte]
      -- region 5
      refine awp_run rfl (by simp only [fw0, fw1, fw2, fw3, fw4, fw5, fw6, fw7, ↓reduceIte, Nat.reduceAdd, Nat.reduceMul, Nat.reduceEqDiff, Nat.reduceLT, Nat.reduceLeDiff, reduceCtorEq, Bool.false_eq_true, Bool.not_true, Bool.not_false, and_self, Nat.le_refl, ne_eq, Int.reduceEq, not_false_eq_true] <;> rfl) ?_
      exact ⟨rfl, _, fuel_ok h3, rfl, rfl, rfl⟩
    · simp only [h3, decide_false, Bool.false_eq_true, ↓reduceIte]
      refine awp_skip ?_
      exact ⟨rfl, f, hf, rfl, rfl, rfl⟩
  obtain ⟨rfl, g, hg, hA, rfl, rfl⟩ := hq
  refine awp_keep _ hA ?_
  refine awp_seq ?_
  -- region 6
  refine awp_region rfl ?_
  refine aops_run 1 (by simp only [fw0, fw1, fw2, fw3, fw4, fw5, fw6, fw7, ↓reduceIte, Nat.reduceAdd, Nat.reduceMul, Nat.reduceEqDiff, Nat.reduceLT, Nat.reduceLeDiff, reduceCtorEq, Bool.false_eq_true, Bool.not_true, Bool.not_false, and_self, Nat.le_refl] <;> rfl) ?_
  refine aops_one rfl (os_min rfl rfl rfl ?_)
  have hs : -9223372036854775808 ≤ (if (300 : Int) < g then (300 : Int) else g) := by split <;> omega
  generalize (if (300 : Int) < g then (300 : Int) else g) = sh at hs ⊢
  refine aops_run 1 (by simp only [fw0, fw1, fw2, fw3, fw4, fw5, fw6, fw7, ↓reduceIte, Nat.reduceAdd, Nat.reduceMul, Nat.reduceEqDiff, Nat.reduceLT, Nat.reduceLeDiff, reduceCtorEq, Bool.false_eq_true, Bool.not_true, Bool.not_false, and_self, Nat.le_refl] <;> rfl) ?_
  refine awp_seq ?_
  -- region 7
  obtain ⟨z, h19⟩ := c19 Γ p
  have hq := fewF_k hp1 hp2 z
  have hqs := fewF_small p z
  refine awp_region rfl ?_
  refine aops_run 1 (by simp only [fw0, fw1, fw2, fw3, fw4, fw5, fw6, fw7, ↓reduceIte, Nat.reduceAdd, Nat.reduceMul, Nat.reduceEqDiff, Nat.reduceLT, Nat.reduceLeDiff, reduceCtorEq, Bool.false_eq_true, Bool.not_true, Bool.not_false, and_self, Nat.le_refl, ti31, Pg.fw] <;> rfl) ?_
  refine aops_fn rfl rfl rfl en19 h19 ?_
  generalize fewF p z = q at hq hqs ⊢
  refine aops_run 1 (by simp only [fw0, fw1, fw2, fw3, fw4, fw5, fw6, fw7, ↓reduceIte, Nat.reduceAdd, Nat.reduceMul, Nat.reduceEqDiff, Nat.reduceLT, Nat.reduceLeDiff, reduceCtorEq, Bool.false_eq_true, Bool.not_true, Bool.not_false, and_self, Nat.le_refl, ti31, Pg.fw] <;> rfl) ?_
  refine awp_seq ?_
  -- region 8
  refine awp_region rfl ?_
  refine aops_fn rfl rfl rfl en11 (c11 Γ) ?_
  refine aops_run 5 (by simp only [fw0, fw1, fw2, fw3, fw4, fw5, fw6, fw7, ↓reduceIte, Nat.reduceAdd, Nat.reduceMul, Nat.reduceEqDiff, Nat.reduceLT, Nat.reduceLeDiff, reduceCtorEq, Bool.false_eq_true, Bool.not_true, Bool.not_false, and_self, Nat.le_refl, el37, fl36_0, ti33, latsL1] <;> rfl) ?_
  refine aops_fn rfl rfl rfl en10 (c10' Γ l hl n hn0 hn1) ?_
  have hw := wellF_k l hn0
  have hws := wellF_small l hn0
  generalize wellF loHi l n = w at hw hws ⊢
  refine aops_run 2 (by simp only [fw0, fw1, fw2, fw3, fw4, fw5, fw6, fw7, ↓reduceIte, Nat.reduceAdd, Nat.reduceMul, Nat.reduceEqDiff, Nat.reduceLT, Nat.reduceLeDiff, reduceCtorEq, Bool.false_eq_true, Bool.not_true, Bool.not_false, and_self, Nat.le_refl, ti31, Pg.fw] <;> rfl) ?_
  refine awp_keep (A' := [(1, .vec (env.map Bd.enc) false), (2, .vec (c.map Sl.enc) false), (3, .int .i64 g), (5, insV ins), (8, .ptr H.length 0), (12, .ptr (H.length + 1) 0), (17, .bool true), (18, .int .i64 sh), (19, .ptr (H.length + 2) 0)]) [1, 2, 3, 5, 8, 12, 17, 18, 19] rfl ?_
  refine awp_heap (H' := H ++ [.box t.enc, .box q.enc, .box w.enc]) (by simp [Pg.fw]) ?_
  refine awp_seq ?_
  refine awp_seq ?_
  -- region 9
  obtain ⟨zs, h20⟩ := c20 Γ t
  obtain ⟨zd, h21⟩ := c21 Γ t
  refine AWP.mono (Q := fun e A' H' D' => e = .normal ∧ ∃ v : Bool, alook A' 48 = .bool v ∧ akeep [1, 2, 3, 5, 8, 12, 17, 18, 19] A' = [(1, .vec (env.map Bd.enc) false), (2, .vec (c.map Sl.enc) false), (3, .int .i64 g), (5, insV ins), (8, .ptr H.length 0), (12, .ptr (H.length + 1) 0), (17, .bool true), (18, .int .i64 sh), (19, .ptr (H.length + 2) 0)] ∧ H' = H ++ [.box t.enc, .box q.enc, .box w.enc] ∧ D' = []) ?_ fun e A' H' D' hq2 => ?_
  · refine awp_region rfl ?_
    refine aops_run 1 (by simp only [fw0, fw1, fw2, fw3, fw4, fw5, fw6, fw7, ↓reduceIte, Nat.reduceAdd, Nat.reduceMul, Nat.reduceEqDiff, Nat.reduceLT, Nat.reduceLeDiff, reduceCtorEq, Bool.false_eq_true, Bool.not_true, Bool.not_false, and_self, Nat.le_refl, ti29, Tm.fw] <;> rfl) ?_
    refine aops_fn rfl rfl rfl en20 h20 ?_
    by_cases h200 : 200 < zs
    · refine aops_run 6 (by simp only [fw0, fw1, fw2, fw3, fw4, fw5, fw6, fw7, ↓reduceIte, Nat.reduceAdd, Nat.reduceMul, Nat.reduceEqDiff, Nat.reduceLT, Nat.reduceLeDiff, reduceCtorEq, Bool.false_eq_true, Bool.not_true, Bool.not_false, and_self, Nat.le_refl, h200, decide_true] <;> rfl) ?_
      exact ⟨rfl, _, rfl, rfl, rfl, rfl⟩
    · refine aops_run 3 (by simp only [fw0, fw1, fw2, fw3, fw4, fw5, fw6, fw7, ↓reduceIte, Nat.reduceAdd, Nat.reduceMul, Nat.reduceEqDiff, Nat.reduceLT, Nat.reduceLeDiff, reduceCtorEq, Bool.false_eq_true, Bool.not_true, Bool.not_false, and_self, Nat.le_refl, ti29, Tm.fw, h200, decide_false] <;> rfl) ?_
      refine aops_fnIf rfl rfl rfl rfl rfl en21 h21 ?_
      refine aops_run 2 (by simp only [fw0, fw1, fw2, fw3, fw4, fw5, fw6, fw7, ↓reduceIte, Nat.reduceAdd, Nat.reduceMul, Nat.reduceEqDiff, Nat.reduceLT, Nat.reduceLeDiff, reduceCtorEq, Bool.false_eq_true, Bool.not_true, Bool.not_false, and_self, Nat.le_refl] <;> rfl) ?_
      exact ⟨rfl, _, rfl, rfl, rfl, rfl⟩
  obtain ⟨rfl, v, hv48, hA2, rfl, rfl⟩ := hq2
  refine awp_cond (b := v) (by show alook A' 48 = _; exact hv48) ?_
  refine awp_keep _ hA2 ?_
  cases v with
  | true =>
    refine awp_seq ?_
    -- region 10
    refine awp_run rfl (by simp only [fw0, fw1, fw2, fw3, fw4, fw5, fw6, fw7, ↓reduceIte, Nat.reduceAdd, Nat.reduceMul, Nat.reduceEqDiff, Nat.reduceLT, Nat.reduceLeDiff, reduceCtorEq, Bool.false_eq_true, Bool.not_true, Bool.not_false, and_self, Nat.le_refl] <;> rfl) ?_
    refine awp_ret ?_
    refine gives_end (.inl rfl) _ ?_
    simp [ares, aresL, ares1, rd, ev, alook, aput, Tryd.f8]
  | false =>
  refine awp_skip ?_
  refine awp_seq ?_
  -- region 11
  have hrun := run_ov 100000 t env c (capF sh) ht he3
  have hrcl := run_cl 100000 t env c (capF sh)
  have h22 := c22 Γ hΓ t env c sh hs he1 hc
  have h23 := c23 Γ (B := big) (by decide) 99999 (by decide) t env c sh (capF_le sh) (by have := capF_le sh; unfold big; omega) (EL_mono (by have := capF_le sh; unfold big; omega) he1) hc
  change Gives _ _ _ _ (.agg (resE (run 100000 t env c (capF sh)))) at h23
  generalize run 100000 t env c (capF sh) = r at hrun hrcl h22 h23
  refine awp_region rfl ?_
  refine aops_run 4 (by simp only [fw0, fw1, fw2, fw3, fw4, fw5, fw6, fw7, ↓reduceIte, Nat.reduceAdd, Nat.reduceMul, Nat.reduceEqDiff, Nat.reduceLT, Nat.reduceLeDiff, reduceCtorEq, Bool.false_eq_true, Bool.not_true, Bool.not_false, and_self, Nat.le_refl, ti29, Tm.fw] <;> rfl) ?_
  refine aops_fn rfl rfl rfl en22 h22 ?_
  refine aops_run 2 (by simp only [fw0, fw1, fw2, fw3, fw4, fw5, fw6, fw7, ↓reduceIte, Nat.reduceAdd, Nat.reduceMul, Nat.reduceEqDiff, Nat.reduceLT, Nat.reduceLeDiff, reduceCtorEq, Bool.false_eq_true, Bool.not_true, Bool.not_false, and_self, Nat.le_refl, ti47, resE_fw] <;> rfl) ?_
  refine awp_seq ?_
  -- region 12
  refine awp_region rfl ?_
  refine aops_run 1 (by simp only [fw0, fw1, fw2, fw3, fw4, fw5, fw6, fw7, ↓reduceIte, Nat.reduceAdd, Nat.reduceMul, Nat.reduceEqDiff, Nat.reduceLT, Nat.reduceLeDiff, reduceCtorEq, Bool.false_eq_true, Bool.not_true, Bool.not_false, and_self, Nat.le_refl, ti29, Tm.fw] <;> rfl) ?_
  refine aops_fn rfl rfl rfl en24 (c24k Γ t ht) ?_
  refine aops_run 1 (by simp only [fw0, fw1, fw2, fw3, fw4, fw5, fw6, fw7, ↓reduceIte, Nat.reduceAdd, Nat.reduceMul, Nat.reduceEqDiff, Nat.reduceLT, Nat.reduceLeDiff, reduceCtorEq, Bool.false_eq_true, Bool.not_true, Bool.not_false, and_self, Nat.le_refl] <;> rfl) ?_
  refine aops_fn rfl rfl rfl en25 (c25 Γ env (by have := he1.1; omega) he2) ?_
  refine aops_run 1 (by simp only [fw0, fw1, fw2, fw3, fw4, fw5, fw6, fw7, ↓reduceIte, Nat.reduceAdd, Nat.reduceMul, Nat.reduceEqDiff, Nat.reduceLT, Nat.reduceLeDiff, reduceCtorEq, Bool.false_eq_true, Bool.not_true, Bool.not_false, and_self, Nat.le_refl] <;> rfl) ?_
  refine aops_fn rfl rfl rfl en26 (c26 Γ c hc) ?_
  refine aops_run 1 (by simp only [fw0, fw1, fw2, fw3, fw4, fw5, fw6, fw7, ↓reduceIte, Nat.reduceAdd, Nat.reduceMul, Nat.reduceEqDiff, Nat.reduceLT, Nat.reduceLeDiff, reduceCtorEq, Bool.false_eq_true, Bool.not_true, Bool.not_false, and_self, Nat.le_refl] <;> rfl) ?_
  refine aops_fn rfl rfl rfl en23 h23 ?_
  refine aops_run 2 (by simp only [fw0, fw1, fw2, fw3, fw4, fw5, fw6, fw7, ↓reduceIte, Nat.reduceAdd, Nat.reduceMul, Nat.reduceEqDiff, Nat.reduceLT, Nat.reduceLeDiff, reduceCtorEq, Bool.false_eq_true, Bool.not_true, Bool.not_false, and_self, Nat.le_refl, ti73, resE_fw] <;> rfl) ?_
  refine awp_seq ?_
  -- region 13 drawn
  have k1 := runP_ov hq ins sh
  have k2 := runP_cl q ins sh
  have k3 := runP_ov hw ins sh
  have k4 := runP_cl w ins sh
  have k5 := hq.cells
  have k6 := hw.cells
  have hh : PgKOk (highP [76, 111] (numT 1)) := ⟨by decide, by decide, by decide, (fun d h => by cases h), kok_num 1⟩
  refine awp_drawn [0, 0, 1, 1, 0, 0, 0, 1, 0, 0, 0, 1, 0, 0, 0, 0, 0, 0, 0, 1, 0, 0, 0, 1, 0, 0, 0, 0, 0, 0, 0, 0, 0, 0, 0, 0, 0, 0, 0, 0, 0, 0, 0, 0, 0, 0, 0] [0, 1, 3, 3, 15, 31, 63, 127, 127, 127, 1023, 127, 4095, 127, 127, 32767, 65535, 131071, 262143, 524287, 524287, 524287, 4194303, 524287, 16777215, 524287, 524287, 134217727, 268435455, 536870911, 1073741823, 2147483647, 4294967295, 2147483647, 2147483647, 34359738367, 68719476735, 68719476735, 206158430207, 481036337151, 2147483647, 2147483647, 4329327034367, 8727373545471, 17592186044415, 35184372088831, 70368744177663] mixed rfl (by kernel_rfl) ?_
  refine dops_run 4 (by simp only [fw0, fw1, fw2, fw3, fw4, fw5, fw6, fw7, ↓reduceIte, Nat.reduceAdd, Nat.reduceMul, Nat.reduceEqDiff, Nat.reduceLT, Nat.reduceLeDiff, reduceCtorEq, Bool.false_eq_true, Bool.not_true, Bool.not_false, and_self, Nat.le_refl, ti47, ti73, resE_fw] <;> rfl) ?_
  refine dops_fn rfl (by simp only [fw0, fw1, fw2, fw3, fw4, fw5, fw6, fw7, ↓reduceIte, Nat.reduceAdd, Nat.reduceMul, Nat.reduceEqDiff, Nat.reduceLT, Nat.reduceLeDiff, reduceCtorEq, Bool.false_eq_true, Bool.not_true, Bool.not_false, and_self, Nat.le_refl] <;> rfl) rfl rfl en27 (c27 Γ r hrun.tm (by rw [hrcl]; exact hc)) ?_
  refine dops_run 5 (by simp only [fw0, fw1, fw2, fw3, fw4, fw5, fw6, fw7, ↓reduceIte, Nat.reduceAdd, Nat.reduceMul, Nat.reduceEqDiff, Nat.reduceLT, Nat.reduceLeDiff, reduceCtorEq, Bool.false_eq_true, Bool.not_true, Bool.not_false, and_self, Nat.le_refl, ti31, Pg.fw] <;> rfl) ?_
  refine dops_fn rfl (by simp only [fw0, fw1, fw2, fw3, fw4, fw5, fw6, fw7, ↓reduceIte, Nat.reduceAdd, Nat.reduceMul, Nat.reduceEqDiff, Nat.reduceLT, Nat.reduceLeDiff, reduceCtorEq, Bool.false_eq_true, Bool.not_true, Bool.not_false, and_self, Nat.le_refl] <;> rfl) rfl rfl en15 (c15 Γ hΓ q ins sh hs hqs) ?_
  refine dops_run 1 (by simp only [fw0, fw1, fw2, fw3, fw4, fw5, fw6, fw7, ↓reduceIte, Nat.reduceAdd, Nat.reduceMul, Nat.reduceEqDiff, Nat.reduceLT, Nat.reduceLeDiff, reduceCtorEq, Bool.false_eq_true, Bool.not_true, Bool.not_false, and_self, Nat.le_refl, ti31, Pg.fw] <;> rfl) ?_
  refine dops_fn rfl (by simp only [fw0, fw1, fw2, fw3, fw4, fw5, fw6, fw7, ↓reduceIte, Nat.reduceAdd, Nat.reduceMul, Nat.reduceEqDiff, Nat.reduceLT, Nat.reduceLeDiff, reduceCtorEq, Bool.false_eq_true, Bool.not_true, Bool.not_false, and_self, Nat.le_refl] <;> rfl) rfl rfl en29 (c29 Γ q hq) ?_
  refine dops_run 2 (by simp only [fw0, fw1, fw2, fw3, fw4, fw5, fw6, fw7, ↓reduceIte, Nat.reduceAdd, Nat.reduceMul, Nat.reduceEqDiff, Nat.reduceLT, Nat.reduceLeDiff, reduceCtorEq, Bool.false_eq_true, Bool.not_true, Bool.not_false, and_self, Nat.le_refl] <;> rfl) ?_
  refine dops_fn rfl (by simp only [fw0, fw1, fw2, fw3, fw4, fw5, fw6, fw7, ↓reduceIte, Nat.reduceAdd, Nat.reduceMul, Nat.reduceEqDiff, Nat.reduceLT, Nat.reduceLeDiff, reduceCtorEq, Bool.false_eq_true, Bool.not_true, Bool.not_false, and_self, Nat.le_refl] <;> rfl) rfl rfl en28 (c28 Γ q ins sh hqs) ?_
  refine dops_fn rfl (by simp only [fw0, fw1, fw2, fw3, fw4, fw5, fw6, fw7, ↓reduceIte, Nat.reduceAdd, Nat.reduceMul, Nat.reduceEqDiff, Nat.reduceLT, Nat.reduceLeDiff, reduceCtorEq, Bool.false_eq_true, Bool.not_true, Bool.not_false, and_self, Nat.le_refl] <;> rfl) rfl rfl en27 (c27 Γ (runP q ins sh) k1.tm (by rw [k2]; unfold reachBytes; omega)) ?_
  refine dops_run 5 (by simp only [fw0, fw1, fw2, fw3, fw4, fw5, fw6, fw7, ↓reduceIte, Nat.reduceAdd, Nat.reduceMul, Nat.reduceEqDiff, Nat.reduceLT, Nat.reduceLeDiff, reduceCtorEq, Bool.false_eq_true, Bool.not_true, Bool.not_false, and_self, Nat.le_refl, ti31, Pg.fw] <;> rfl) ?_
  refine dops_fn rfl (by simp only [fw0, fw1, fw2, fw3, fw4, fw5, fw6, fw7, ↓reduceIte, Nat.reduceAdd, Nat.reduceMul, Nat.reduceEqDiff, Nat.reduceLT, Nat.reduceLeDiff, reduceCtorEq, Bool.false_eq_true, Bool.not_true, Bool.not_false, and_self, Nat.le_refl] <;> rfl) rfl rfl en15 (c15 Γ hΓ w ins sh hs hws) ?_
  refine dops_run 1 (by simp only [fw0, fw1, fw2, fw3, fw4, fw5, fw6, fw7, ↓reduceIte, Nat.reduceAdd, Nat.reduceMul, Nat.reduceEqDiff, Nat.reduceLT, Nat.reduceLeDiff, reduceCtorEq, Bool.false_eq_true, Bool.not_true, Bool.not_false, and_self, Nat.le_refl, ti31, Pg.fw] <;> rfl) ?_
  refine dops_fn rfl (by simp only [fw0, fw1, fw2, fw3, fw4, fw5, fw6, fw7, ↓reduceIte, Nat.reduceAdd, Nat.reduceMul, Nat.reduceEqDiff, Nat.reduceLT, Nat.reduceLeDiff, reduceCtorEq, Bool.false_eq_true, Bool.not_true, Bool.not_false, and_self, Nat.le_refl] <;> rfl) rfl rfl en29 (c29 Γ w hw) ?_
  refine dops_run 2 (by simp only [fw0, fw1, fw2, fw3, fw4, fw5, fw6, fw7, ↓reduceIte, Nat.reduceAdd, Nat.reduceMul, Nat.reduceEqDiff, Nat.reduceLT, Nat.reduceLeDiff, reduceCtorEq, Bool.false_eq_true, Bool.not_true, Bool.not_false, and_self, Nat.le_refl] <;> rfl) ?_
  refine dops_fn rfl (by simp only [fw0, fw1, fw2, fw3, fw4, fw5, fw6, fw7, ↓reduceIte, Nat.reduceAdd, Nat.reduceMul, Nat.reduceEqDiff, Nat.reduceLT, Nat.reduceLeDiff, reduceCtorEq, Bool.false_eq_true, Bool.not_true, Bool.not_false, and_self, Nat.le_refl] <;> rfl) rfl rfl en28 (c28 Γ w ins sh hws) ?_
  refine dops_fn rfl (by simp only [fw0, fw1, fw2, fw3, fw4, fw5, fw6, fw7, ↓reduceIte, Nat.reduceAdd, Nat.reduceMul, Nat.reduceEqDiff, Nat.reduceLT, Nat.reduceLeDiff, reduceCtorEq, Bool.false_eq_true, Bool.not_true, Bool.not_false, and_self, Nat.le_refl] <;> rfl) rfl rfl en27 (c27 Γ (runP w ins sh) k3.tm (by rw [k4]; unfold reachBytes; omega)) ?_
  refine dops_run 2 (by simp only [fw0, fw1, fw2, fw3, fw4, fw5, fw6, fw7, ↓reduceIte, Nat.reduceAdd, Nat.reduceMul, Nat.reduceEqDiff, Nat.reduceLT, Nat.reduceLeDiff, reduceCtorEq, Bool.false_eq_true, Bool.not_true, Bool.not_false, and_self, Nat.le_refl] <;> rfl) ?_
  refine dops_fn rfl (by simp only [fw0, fw1, fw2, fw3, fw4, fw5, fw6, fw7, ↓reduceIte, Nat.reduceAdd, Nat.reduceMul, Nat.reduceEqDiff, Nat.reduceLT, Nat.reduceLeDiff, reduceCtorEq, Bool.false_eq_true, Bool.not_true, Bool.not_false, and_self, Nat.le_refl] <;> rfl) rfl rfl en14 (c14 Γ 1) ?_
  refine dops_fn rfl (by simp only [fw0, fw1, fw2, fw3, fw4, fw5, fw6, fw7, ↓reduceIte, Nat.reduceAdd, Nat.reduceMul, Nat.reduceEqDiff, Nat.reduceLT, Nat.reduceLeDiff, reduceCtorEq, Bool.false_eq_true, Bool.not_true, Bool.not_false, and_self, Nat.le_refl] <;> rfl) rfl rfl en30 (c30 Γ [76, 111] (numT 1)) ?_
  refine dops_run 2 (by simp only [fw0, fw1, fw2, fw3, fw4, fw5, fw6, fw7, ↓reduceIte, Nat.reduceAdd, Nat.reduceMul, Nat.reduceEqDiff, Nat.reduceLT, Nat.reduceLeDiff, reduceCtorEq, Bool.false_eq_true, Bool.not_true, Bool.not_false, and_self, Nat.le_refl] <;> rfl) ?_
  refine dops_fn rfl (by simp only [fw0, fw1, fw2, fw3, fw4, fw5, fw6, fw7, ↓reduceIte, Nat.reduceAdd, Nat.reduceMul, Nat.reduceEqDiff, Nat.reduceLT, Nat.reduceLeDiff, reduceCtorEq, Bool.false_eq_true, Bool.not_true, Bool.not_false, and_self, Nat.le_refl] <;> rfl) rfl rfl en15 (c15 Γ hΓ (highP [76, 111] (numT 1)) ins g hg (by decide)) ?_
  refine dops_run 1 (by simp only [fw0, fw1, fw2, fw3, fw4, fw5, fw6, fw7, ↓reduceIte, Nat.reduceAdd, Nat.reduceMul, Nat.reduceEqDiff, Nat.reduceLT, Nat.reduceLeDiff, reduceCtorEq, Bool.false_eq_true, Bool.not_true, Bool.not_false, and_self, Nat.le_refl, fl47_3, resE_fw, resF_fw] <;> rfl) ?_
  refine dops_fn rfl (by simp only [fw0, fw1, fw2, fw3, fw4, fw5, fw6, fw7, ↓reduceIte, Nat.reduceAdd, Nat.reduceMul, Nat.reduceEqDiff, Nat.reduceLT, Nat.reduceLeDiff, reduceCtorEq, Bool.false_eq_true, Bool.not_true, Bool.not_false, and_self, Nat.le_refl] <;> rfl) rfl rfl en14 (c14 Γ 1) ?_
  refine dops_fn rfl (by simp only [fw0, fw1, fw2, fw3, fw4, fw5, fw6, fw7, ↓reduceIte, Nat.reduceAdd, Nat.reduceMul, Nat.reduceEqDiff, Nat.reduceLT, Nat.reduceLeDiff, reduceCtorEq, Bool.false_eq_true, Bool.not_true, Bool.not_false, and_self, Nat.le_refl] <;> rfl) rfl rfl en30 (c30 Γ [76, 111] (numT 1)) ?_
  refine dops_fn rfl (by simp only [fw0, fw1, fw2, fw3, fw4, fw5, fw6, fw7, ↓reduceIte, Nat.reduceAdd, Nat.reduceMul, Nat.reduceEqDiff, Nat.reduceLT, Nat.reduceLeDiff, reduceCtorEq, Bool.false_eq_true, Bool.not_true, Bool.not_false, and_self, Nat.le_refl] <;> rfl) rfl rfl en29 (c29 Γ (highP [76, 111] (numT 1)) hh) ?_
  refine dops_run 2 (by simp only [fw0, fw1, fw2, fw3, fw4, fw5, fw6, fw7, ↓reduceIte, Nat.reduceAdd, Nat.reduceMul, Nat.reduceEqDiff, Nat.reduceLT, Nat.reduceLeDiff, reduceCtorEq, Bool.false_eq_true, Bool.not_true, Bool.not_false, and_self, Nat.le_refl] <;> rfl) ?_
  refine dops_fn rfl (by simp only [fw0, fw1, fw2, fw3, fw4, fw5, fw6, fw7, ↓reduceIte, Nat.reduceAdd, Nat.reduceMul, Nat.reduceEqDiff, Nat.reduceLT, Nat.reduceLeDiff, reduceCtorEq, Bool.false_eq_true, Bool.not_true, Bool.not_false, and_self, Nat.le_refl] <;> rfl) rfl rfl en28 (c28 Γ (highP [76, 111] (numT 1)) ins g (by decide)) ?_
  refine dops_run 4 (by simp only [fw0, fw1, fw2, fw3, fw4, fw5, fw6, fw7, ↓reduceIte, Nat.reduceAdd, Nat.reduceMul, Nat.reduceEqDiff, Nat.reduceLT, Nat.reduceLeDiff, reduceCtorEq, Bool.false_eq_true, Bool.not_true, Bool.not_false, and_self, Nat.le_refl, fl73_3, resE_fw, resF_fw, decide_true] <;> rfl) ?_
  refine dops_end ?_
  refine awp_ret ?_
  refine gives_end (.inl rfl) _ ?_
  simp [ares, aresL, ares1, rd, ev, alook, aput, Tryd.f8]

end Go.Proofs.YtnjlfbefpoecpaaDoor
