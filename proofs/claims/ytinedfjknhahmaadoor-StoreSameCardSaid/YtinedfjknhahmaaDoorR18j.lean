/- The contracts of what compares cells, and of the document's names. -/
import Derived.Test.YtinedfjknhahmaaDoorR18i
namespace Go.Proofs.YtinedfjknhahmaaDoor
set_option linter.unusedVariables false
set_option linter.unusedSimpArgs false
open Go.RowKit Fw

/-- chancellaw18.sameSlots -/
theorem c22 (Γ : Nat → PV) (xs ys : List Sl) (hl24 : xs.length * 24 ≤ reachBytes) : Gives Tryd.prog Γ 22 [.vec (xs.map Sl.enc) false, .vec (ys.map Sl.enc) false] (.bool (decide (xs = ys))) := by
  refine fn_of_awp Tryd.func22 rfl (by simp [Tryd.f22]) rfl fun H => ?_
  refine awp_seq ?_
  -- region 0
  refine awp_run rfl (by simp only [fw0, fw1, fw2, fw3, fw4, fw5, fw6, fw7, ↓reduceIte, Nat.reduceAdd, Nat.reduceMul, Nat.reduceEqDiff, Nat.reduceLT, Nat.reduceLeDiff, reduceCtorEq, Bool.false_eq_true, Bool.not_true, Bool.not_false, and_self, Nat.le_refl] <;> rfl) ?_
  refine awp_seq ?_
  -- region 1
  refine awp_region rfl ?_
  refine aops_run 1 (by simp only [fw0, fw1, fw2, fw3, fw4, fw5, fw6, fw7, ↓reduceIte, Nat.reduceAdd, Nat.reduceMul, Nat.reduceEqDiff, Nat.reduceLT, Nat.reduceLeDiff, reduceCtorEq, Bool.false_eq_true, Bool.not_true, Bool.not_false, and_self, Nat.le_refl] <;> rfl) ?_
  refine aops_fn rfl rfl rfl en15 (c15 Γ _ hl24) ?_
  refine aops_run 1 (by simp only [fw0, fw1, fw2, fw3, fw4, fw5, fw6, fw7, ↓reduceIte, Nat.reduceAdd, Nat.reduceMul, Nat.reduceEqDiff, Nat.reduceLT, Nat.reduceLeDiff, reduceCtorEq, Bool.false_eq_true, Bool.not_true, Bool.not_false, and_self, Nat.le_refl] <;> rfl) ?_
  refine awp_vlen 0 rfl fun hlx => ?_
  refine awp_vlen 1 rfl fun hly => ?_
  rw [List.length_map] at hlx hly
  refine awp_seq ?_
  refine awp_seq ?_
  -- region 2
  refine awp_run rfl (by simp only [fw0, fw1, fw2, fw3, fw4, fw5, fw6, fw7, ↓reduceIte, Nat.reduceAdd, Nat.reduceMul, Nat.reduceEqDiff, Nat.reduceLT, Nat.reduceLeDiff, reduceCtorEq, Bool.false_eq_true, Bool.not_true, Bool.not_false, and_self, Nat.le_refl, un44, List.length_map] <;> rfl) ?_
  refine awp_cond (by simp only [fw0, fw1, fw2, fw3, fw4, fw5, fw6, fw7, ↓reduceIte, Nat.reduceAdd, Nat.reduceMul, Nat.reduceEqDiff, Nat.reduceLT, Nat.reduceLeDiff, reduceCtorEq, Bool.false_eq_true, Bool.not_true, Bool.not_false, and_self, Nat.le_refl] <;> rfl) ?_
  by_cases hl : xs.length = ys.length
  rotate_left
  · have hl' : ¬ ((xs.length : Int) = ys.length) := by omega
    simp only [hl', decide_false, Bool.not_false, ↓reduceIte]
    refine awp_seq ?_
    refine awp_run rfl (by simp only [fw0, fw1, fw2, fw3, fw4, fw5, fw6, fw7, ↓reduceIte, Nat.reduceAdd, Nat.reduceMul, Nat.reduceEqDiff, Nat.reduceLT, Nat.reduceLeDiff, reduceCtorEq, Bool.false_eq_true, Bool.not_true, Bool.not_false, and_self, Nat.le_refl] <;> rfl) ?_
    refine awp_ret ?_
    have hne : decide (xs = ys) = false := decide_eq_false fun e => hl (by rw [e])
    exact gives_end0 (.inl rfl) (by rw [hne]; rfl)
  have hl' : ((xs.length : Int) = ys.length) := by omega
  simp only [hl', decide_true, Bool.not_true, Bool.false_eq_true, ↓reduceIte]
  refine awp_skip ?_
  refine awp_seq ?_
  refine awp_seq ?_
  -- region 4
  refine awp_run rfl (by simp only [fw0, fw1, fw2, fw3, fw4, fw5, fw6, fw7, ↓reduceIte, Nat.reduceAdd, Nat.reduceMul, Nat.reduceEqDiff, Nat.reduceLT, Nat.reduceLeDiff, reduceCtorEq, Bool.false_eq_true, Bool.not_true, Bool.not_false, and_self, Nat.le_refl] <;> rfl) ?_
  refine awp_block ?_
  refine awp_for [1, 5, 6] (fun i : Nat => [.vec (ys.map Sl.enc) false, .vec (xs.map Sl.enc) false, .int .i64 (i : Int)]) (fun _ => H) (fun i => xs.length - i) (fun i => i ≤ xs.length ∧ xs.take i = ys.take i) 0 rfl rfl ⟨Nat.zero_le _, rfl⟩ fun i hi => ?_
  refine awp_seq ?_
  refine awp_seq ?_
  -- region 5
  refine awp_run rfl (by simp only [fw0, fw1, fw2, fw3, fw4, fw5, fw6, fw7, ↓reduceIte, Nat.reduceAdd, Nat.reduceMul, Nat.reduceEqDiff, Nat.reduceLT, Nat.reduceLeDiff, reduceCtorEq, Bool.false_eq_true, Bool.not_true, Bool.not_false, and_self, Nat.le_refl, un44, List.length_map] <;> rfl) ?_
  refine awp_cond (by simp only [fw0, fw1, fw2, fw3, fw4, fw5, fw6, fw7, ↓reduceIte, Nat.reduceAdd, Nat.reduceMul, Nat.reduceEqDiff, Nat.reduceLT, Nat.reduceLeDiff, reduceCtorEq, Bool.false_eq_true, Bool.not_true, Bool.not_false, and_self, Nat.le_refl] <;> rfl) ?_
  by_cases hc : (i : Int) < xs.length
  rotate_left
  · simp only [hc, decide_false, Bool.false_eq_true, ↓reduceIte]
    refine awp_exit ?_
    refine awp_seq (awp_run rfl (by simp only [fw0, fw1, fw2, fw3, fw4, fw5, fw6, fw7, ↓reduceIte, Nat.reduceAdd, Nat.reduceMul, Nat.reduceEqDiff, Nat.reduceLT, Nat.reduceLeDiff, reduceCtorEq, Bool.false_eq_true, Bool.not_true, Bool.not_false, and_self, Nat.le_refl] <;> rfl) (awp_ret ?_))
    have e : xs = ys := by
      have := hi.2
      rwa [List.take_of_length_le (by omega), List.take_of_length_le (by omega)] at this
    have he : decide (xs = ys) = true := decide_eq_true e
    exact gives_end0 (.inl rfl) (by rw [he]; rfl)
  simp only [hc, decide_true, ↓reduceIte]
  refine awp_skip ?_
  have hix : i < xs.length := by omega
  have hiy : i < ys.length := by omega
  have gx : xs[i]? = some xs[i] := List.getElem?_eq_getElem hix
  have gy : ys[i]? = some ys[i] := List.getElem?_eq_getElem hiy
  refine awp_seq ?_
  refine awp_block ?_
  refine awp_seq ?_
  -- region 7 drawn
  refine awp_drun [0, 0, 0, 1, 0, 0, 0, 1, 0] [0, 0, 3, 7, 0, 0, 48, 112, 255] mixed rfl (by kernel_rfl) (by simp only [fw0, fw1, fw2, fw3, fw4, fw5, fw6, fw7, ↓reduceIte, Nat.reduceAdd, Nat.reduceMul, Nat.reduceEqDiff, Nat.reduceLT, Nat.reduceLeDiff, reduceCtorEq, Bool.false_eq_true, Bool.not_true, Bool.not_false, and_self, Nat.le_refl, el44, ti78, eq78, Sl.fw, List.getElem?_map, gx, gy, Option.map_some, Int.natCast_nonneg, show ∀ s : Sl, s.enc = [.str s.name, .int .i64 s.n] from fun _ => rfl] <;> rfl) ?_
  refine awp_cond (by simp only [fw0, fw1, fw2, fw3, fw4, fw5, fw6, fw7, ↓reduceIte, Nat.reduceAdd, Nat.reduceMul, Nat.reduceEqDiff, Nat.reduceLT, Nat.reduceLeDiff, reduceCtorEq, Bool.false_eq_true, Bool.not_true, Bool.not_false, and_self, Nat.le_refl] <;> rfl) ?_
  by_cases hn : xs[i] = ys[i]
  rotate_left
  · have hb : (!(decide (xs[i].name = ys[i].name) && (decide (xs[i].n = ys[i].n) && true))) = true := by
      have : ¬ (xs[i].name = ys[i].name ∧ xs[i].n = ys[i].n) := fun ⟨h1, h2⟩ => hn (by
        cases hxi : xs[i]; cases hyi : ys[i]; rw [hxi, hyi] at h1 h2; simp_all)
      simp only [Bool.and_true, Bool.not_eq_true', Bool.and_eq_false_iff, decide_eq_false_iff_not]
      by_cases h1 : xs[i].name = ys[i].name
      · exact .inr fun h2 => this ⟨h1, h2⟩
      · exact .inl h1
    simp only [hb, ↓reduceIte]
    refine awp_seq ?_
    refine awp_run rfl (by simp only [fw0, fw1, fw2, fw3, fw4, fw5, fw6, fw7, ↓reduceIte, Nat.reduceAdd, Nat.reduceMul, Nat.reduceEqDiff, Nat.reduceLT, Nat.reduceLeDiff, reduceCtorEq, Bool.false_eq_true, Bool.not_true, Bool.not_false, and_self, Nat.le_refl] <;> rfl) ?_
    refine awp_ret ?_
    have hne : decide (xs = ys) = false := decide_eq_false fun e => hn (by
      have h2 : xs[i]? = ys[i]? := by rw [e]
      rw [gx, gy] at h2
      exact Option.some.inj h2)
    exact gives_end0 (.inl rfl) (by rw [hne]; rfl)
  simp only [hn, decide_true, Bool.and_true, Bool.not_true, Bool.false_eq_true, ↓reduceIte]
  refine awp_skip ?_
  -- region 6
  refine awp_run rfl (by simp only [fw0, fw1, fw2, fw3, fw4, fw5, fw6, fw7, ↓reduceIte, Nat.reduceAdd, Nat.reduceMul, Nat.reduceEqDiff, Nat.reduceLT, Nat.reduceLeDiff, reduceCtorEq, Bool.false_eq_true, Bool.not_true, Bool.not_false, and_self, Nat.le_refl] <;> rfl) ?_
  refine ⟨i + 1, by omega, ⟨by omega, ?_⟩, by rw [wrapS i (by omega)]; rfl, rfl, rfl⟩
  rw [List.take_add_one, List.take_add_one, gx, gy, hi.2, hn]

/-- What a name stands for: the last that was bound. -/
def lookV (l : List Bd) (nm : List UInt8) : Option Val := (l.reverse.find? fun b => decide (b.name = nm)).map (·.v)
def zeroV : Val := .mk 0 0 [] (.mk 0 [] 0 []) []
def lookP (l : List Bd) (nm : List UInt8) : PV := .tup [.agg ((lookV l nm).getD zeroV).enc, .bool (lookV l nm).isSome]

theorem lookV_take {l : List Bd} {nm : List UInt8} {i : Nat} (hi : i < l.length) : lookV (l.take (i + 1)) nm = if l[i].name = nm then some l[i].v else lookV (l.take i) nm := by
  have : l.take (i + 1) = l.take i ++ [l[i]] := by rw [List.take_add_one, List.getElem?_eq_getElem hi]; rfl
  unfold lookV
  rw [this, List.reverse_append]
  simp only [List.reverse_cons, List.reverse_nil, List.nil_append, List.singleton_append, List.find?_cons]
  by_cases e : l[i].name = nm <;> simp [e]

theorem predN (i : Nat) (h : i + 1 < 9223372036854775808) : IntKind.i64.wrap (((i + 1 : Nat) : Int) - 1) = (i : Int) := by
  rw [show (((i + 1 : Nat) : Int) - 1) = (i : Int) by omega]; exact wrapN i (by omega)

def zeroVP : List PV := [.int .i64 0, .int .i64 0, .str [], .int .i64 0, .str [], .int .i64 0, .vec [] true, .vec [] true]
theorem zeroVP_le : PV.leL zeroVP zeroV.enc := by
  simp [zeroVP, zeroV, Val.enc, Tm.enc, Tm.encs, Bd.encs, PV.le, PV.leL, PV.leLL]

def lookP0 (l : List Bd) (nm : List UInt8) : PV := .tup [.agg (((lookV l nm).map Val.enc).getD zeroVP), .bool (lookV l nm).isSome]
theorem lookP_le (l : List Bd) (nm : List UInt8) : PV.le (lookP0 l nm) (lookP l nm) := by
  unfold lookP0 lookP
  cases lookV l nm with
  | none => exact ⟨zeroVP_le, rfl, trivial⟩
  | some v => exact ⟨PV.leL_refl _, rfl, trivial⟩
theorem lookP_plain (l : List Bd) (nm : List UInt8) : (lookP0 l nm).plain = true := by
  unfold lookP0
  cases lookV l nm with
  | none => rfl
  | some v => simp [PV.plain, PV.bd, PV.bdL, Val.fw]

/-- One less. -/
def prd : Nat → Int
  | 0 => -1
  | i + 1 => i

theorem prd_pred (n : Nat) (h : n ≤ 9223372036854775807) : IntKind.i64.wrap ((n : Int) - 1) = prd n := by
  cases n with
  | zero => rfl
  | succ i => exact predN i (by omega)

/-- chancelref18.Look -/
theorem c11 (Γ : Nat → PV) (l : List Bd) (nm : List UInt8) : Gives Tryd.prog Γ 11 [.vec (l.map Bd.enc) false, .str nm] (lookP l nm) := by
  refine Gives.res (p := lookP0 l nm) ?_ (lookP_le l nm)
  refine fn_of_awp Tryd.func11 rfl (by simp [Tryd.f11]) (lookP_plain l nm) fun H => ?_
  refine awp_vlen 0 rfl fun hlen => ?_
  rw [List.length_map] at hlen
  refine awp_seq ?_
  -- region 0
  refine awp_run rfl (by simp only [fw0, fw1, fw2, fw3, fw4, fw5, fw6, fw7, ↓reduceIte, Nat.reduceAdd, Nat.reduceMul, Nat.reduceEqDiff, Nat.reduceLT, Nat.reduceLeDiff, reduceCtorEq, Bool.false_eq_true, Bool.not_true, Bool.not_false, and_self, Nat.le_refl, ti37] <;> rfl) ?_
  refine awp_seq ?_
  refine awp_seq ?_
  -- region 1
  refine awp_run rfl (by simp only [fw0, fw1, fw2, fw3, fw4, fw5, fw6, fw7, ↓reduceIte, Nat.reduceAdd, Nat.reduceMul, Nat.reduceEqDiff, Nat.reduceLT, Nat.reduceLeDiff, reduceCtorEq, Bool.false_eq_true, Bool.not_true, Bool.not_false, and_self, Nat.le_refl, un35, List.length_map] <;> rfl) ?_
  refine awp_block ?_
  refine awp_for [0, 1, 4, 6] (fun j : Nat => [.vec (l.map Bd.enc) false, .str nm, .ptr H.length 0, .int .i64 (prd j)]) (fun _ => H ++ [.box zeroVP]) (fun j => j)
    (fun j => j ≤ l.length ∧ lookV l nm = lookV (l.take j) nm) l.length (by rw [← prd_pred _ hlen]; rfl) rfl ⟨Nat.le_refl _, by rw [List.take_length]⟩ fun j hj => ?_
  cases j with
  | zero =>
    refine awp_seq ?_
    refine awp_seq ?_
    refine awp_run rfl (by simp only [fw0, fw1, fw2, fw3, fw4, fw5, fw6, fw7, ↓reduceIte, Nat.reduceAdd, Nat.reduceMul, Nat.reduceEqDiff, Nat.reduceLT, Nat.reduceLeDiff, reduceCtorEq, Bool.false_eq_true, Bool.not_true, Bool.not_false, and_self, Nat.le_refl, prd] <;> rfl) ?_
    refine awp_cond (by simp only [fw0, fw1, fw2, fw3, fw4, fw5, fw6, fw7, ↓reduceIte, Nat.reduceAdd, Nat.reduceMul, Nat.reduceEqDiff, Nat.reduceLT, Nat.reduceLeDiff, reduceCtorEq, Bool.false_eq_true, Bool.not_true, Bool.not_false, and_self, Nat.le_refl] <;> rfl) ?_
    simp only [show decide ((0 : Int) ≤ -1) = false from rfl, Bool.false_eq_true, ↓reduceIte]
    refine awp_exit ?_
    refine awp_seq ?_
    -- region 6
    refine awp_run rfl (by simp only [fw0, fw1, fw2, fw3, fw4, fw5, fw6, fw7, ↓reduceIte, Nat.reduceAdd, Nat.reduceMul, Nat.reduceEqDiff, Nat.reduceLT, Nat.reduceLeDiff, reduceCtorEq, Bool.false_eq_true, Bool.not_true, Bool.not_false, and_self, Nat.le_refl, ti37, pl37, zeroVP] <;> rfl) ?_
    refine awp_ret ?_
    have hz : lookV l nm = none := by rw [hj.2]; rfl
    exact gives_end (.inl rfl) _ (by simp [lookP0, hz, ares, aresL, ares1, alook, Tryd.f11, rd, ev, ti37, zeroVP])
  | succ i =>
    have hi : i < l.length := hj.1
    have ga : l[i]? = some l[i] := List.getElem?_eq_getElem hi
    refine awp_seq ?_
    refine awp_seq ?_
    refine awp_run rfl (by simp only [fw0, fw1, fw2, fw3, fw4, fw5, fw6, fw7, ↓reduceIte, Nat.reduceAdd, Nat.reduceMul, Nat.reduceEqDiff, Nat.reduceLT, Nat.reduceLeDiff, reduceCtorEq, Bool.false_eq_true, Bool.not_true, Bool.not_false, and_self, Nat.le_refl, prd] <;> rfl) ?_
    refine awp_cond (by simp only [fw0, fw1, fw2, fw3, fw4, fw5, fw6, fw7, ↓reduceIte, Nat.reduceAdd, Nat.reduceMul, Nat.reduceEqDiff, Nat.reduceLT, Nat.reduceLeDiff, reduceCtorEq, Bool.false_eq_true, Bool.not_true, Bool.not_false, and_self, Nat.le_refl] <;> rfl) ?_
    simp only [Int.natCast_nonneg, decide_true, ↓reduceIte]
    refine awp_skip ?_
    refine awp_seq ?_
    refine awp_block ?_
    refine awp_seq ?_
    -- region 4
    refine awp_run rfl (by simp only [fw0, fw1, fw2, fw3, fw4, fw5, fw6, fw7, ↓reduceIte, Nat.reduceAdd, Nat.reduceMul, Nat.reduceEqDiff, Nat.reduceLT, Nat.reduceLeDiff, reduceCtorEq, Bool.false_eq_true, Bool.not_true, Bool.not_false, and_self, Nat.le_refl, el35, fl57_0, ti9, Bd.fw, List.getElem?_map, ga, Option.map_some, Int.natCast_nonneg] <;> rfl) ?_
    refine awp_cond (by simp only [fw0, fw1, fw2, fw3, fw4, fw5, fw6, fw7, ↓reduceIte, Nat.reduceAdd, Nat.reduceMul, Nat.reduceEqDiff, Nat.reduceLT, Nat.reduceLeDiff, reduceCtorEq, Bool.false_eq_true, Bool.not_true, Bool.not_false, and_self, Nat.le_refl] <;> rfl) ?_
    by_cases hn : l[i].name = nm
    · simp only [hn, decide_true, ↓reduceIte]
      refine awp_seq ?_
      -- region 5
      refine awp_run rfl (by simp only [fw0, fw1, fw2, fw3, fw4, fw5, fw6, fw7, ↓reduceIte, Nat.reduceAdd, Nat.reduceMul, Nat.reduceEqDiff, Nat.reduceLT, Nat.reduceLeDiff, reduceCtorEq, Bool.false_eq_true, Bool.not_true, Bool.not_false, and_self, Nat.le_refl, el35, fl57_1, ti37, Bd.fw, Val.fw, List.getElem?_map, ga, Option.map_some, Int.natCast_nonneg, zeroVP] <;> rfl) ?_
      refine awp_ret ?_
      have hz : lookV l nm = some l[i].v := by rw [hj.2, lookV_take hi, if_pos hn]
      exact gives_end (.inl rfl) _ (by simp [lookP0, hz, ares, aresL, ares1, alook, Tryd.f11, rd, ev, ti37, Val.fw])
    simp only [hn, decide_false, Bool.false_eq_true, ↓reduceIte]
    refine awp_skip ?_
    -- region 3
    refine awp_run rfl (by simp only [fw0, fw1, fw2, fw3, fw4, fw5, fw6, fw7, ↓reduceIte, Nat.reduceAdd, Nat.reduceMul, Nat.reduceEqDiff, Nat.reduceLT, Nat.reduceLeDiff, reduceCtorEq, Bool.false_eq_true, Bool.not_true, Bool.not_false, and_self, Nat.le_refl] <;> rfl) ?_
    exact ⟨i, by omega, ⟨by omega, by rw [hj.2, lookV_take hi, if_neg hn]⟩, by rw [prd_pred i (by omega)]; rfl, rfl, rfl⟩

/-- chancelref18.Bind -/
theorem c24 (Γ : Nat → PV) (l : List Bd) (nm : List UInt8) (v : Val) (hl : l.length * 128 ≤ reachBytes) : Gives Tryd.prog Γ 24 [.vec (l.map Bd.enc) false, .str nm, .agg v.enc] (.vec ((l ++ [Bd.mk nm v]).map Bd.enc) false) := by
  refine fn_of_awp Tryd.func24 rfl (by simp [Tryd.f24]) rfl fun H => ?_
  refine awp_seq ?_
  -- region 0
  refine awp_run rfl (by simp only [fw0, fw1, fw2, fw3, fw4, fw5, fw6, fw7, ↓reduceIte, Nat.reduceAdd, Nat.reduceMul, Nat.reduceEqDiff, Nat.reduceLT, Nat.reduceLeDiff, reduceCtorEq, Bool.false_eq_true, Bool.not_true, Bool.not_false, and_self, Nat.le_refl] <;> rfl) ?_
  refine awp_seq ?_
  -- region 1 drawn
  refine awp_drawn [0, 3, 0, 4, 0, 0, 2, 0] [0, 1, 0, 0, 12, 28, 63, 127] mixed rfl (by kernel_rfl) ?_
  refine dops_run 1 (by simp only [fw0, fw1, fw2, fw3, fw4, fw5, fw6, fw7, ↓reduceIte, Nat.reduceAdd, Nat.reduceMul, Nat.reduceEqDiff, Nat.reduceLT, Nat.reduceLeDiff, reduceCtorEq, Bool.false_eq_true, Bool.not_true, Bool.not_false, and_self, Nat.le_refl] <;> rfl) ?_
  refine dops_appendNew rfl rfl (.inr rfl) (Nat.le_refl _) un35 ti57 un35 (.inl ⟨_, rfl⟩) (by decide) rfl (by simp only [fw0, fw1, fw2, fw3, fw4, fw5, fw6, fw7, ↓reduceIte, Nat.reduceAdd, Nat.reduceMul, Nat.reduceEqDiff, Nat.reduceLT, Nat.reduceLeDiff, reduceCtorEq, Bool.false_eq_true, Bool.not_true, Bool.not_false, and_self, Nat.le_refl] <;> rfl) (fun es f h e he => by
      simp only [fw0, fw1, fw2, fw3, fw4, fw5, fw6, fw7, ↓reduceIte, Nat.reduceAdd, Nat.reduceMul, Nat.reduceEqDiff, Nat.reduceLT, Nat.reduceLeDiff, reduceCtorEq, Bool.false_eq_true, Bool.not_true, Bool.not_false, and_self, Nat.le_refl, PV.vec.injEq] at h
      obtain ⟨rfl, rfl⟩ := h
      obtain ⟨x, _, rfl⟩ := List.mem_map.1 he
      exact Bd.enc_len x) (by simp only [fw0, fw1, fw2, fw3, fw4, fw5, fw6, fw7, ↓reduceIte, Nat.reduceAdd, Nat.reduceMul, Nat.reduceEqDiff, Nat.reduceLT, Nat.reduceLeDiff, reduceCtorEq, Bool.false_eq_true, Bool.not_true, Bool.not_false, and_self, Nat.le_refl] <;> rfl) (by unfold reachBytes at hl; rw [List.length_map]; show l.length * 128 ≤ _; omega) (by unfold reachBytes at hl; rw [List.length_map]; omega) ?_
  refine dops_run 4 (by simp only [fw0, fw1, fw2, fw3, fw4, fw5, fw6, fw7, ↓reduceIte, Nat.reduceAdd, Nat.reduceMul, Nat.reduceEqDiff, Nat.reduceLT, Nat.reduceLeDiff, reduceCtorEq, Bool.false_eq_true, Bool.not_true, Bool.not_false, and_self, Nat.le_refl, ti37, ti57, pl57, un35, Val.fw] <;> rfl) ?_
  refine dops_appendR rfl rfl rfl un35 ti57 un35 (.inl ⟨_, rfl⟩) rfl (by simp only [fw0, fw1, fw2, fw3, fw4, fw5, fw6, fw7, ↓reduceIte, Nat.reduceAdd, Nat.reduceMul, Nat.reduceEqDiff, Nat.reduceLT, Nat.reduceLeDiff, reduceCtorEq, Bool.false_eq_true, Bool.not_true, Bool.not_false, and_self, Nat.le_refl] <;> rfl) (by rw [flat_len Bd.enc_len, List.length_map]; exact (Nat.zero_add _).symm) (by simp only [fw0, fw1, fw2, fw3, fw4, fw5, fw6, fw7, ↓reduceIte, Nat.reduceAdd, Nat.reduceMul, Nat.reduceEqDiff, Nat.reduceLT, Nat.reduceLeDiff, reduceCtorEq, Bool.false_eq_true, Bool.not_true, Bool.not_false, and_self, Nat.le_refl] <;> rfl) (fun es f h e he => by
      simp only [fw0, fw1, fw2, fw3, fw4, fw5, fw6, fw7, ↓reduceIte, Nat.reduceAdd, Nat.reduceMul, Nat.reduceEqDiff, Nat.reduceLT, Nat.reduceLeDiff, reduceCtorEq, Bool.false_eq_true, Bool.not_true, Bool.not_false, and_self, Nat.le_refl, PV.vec.injEq] at h
      obtain ⟨rfl, rfl⟩ := h
      simp only [List.mem_singleton] at he
      subst he; simp only [fw0, fw1, fw2, fw3, fw4, fw5, fw6, fw7, ↓reduceIte, Nat.reduceAdd, Nat.reduceMul, Nat.reduceEqDiff, Nat.reduceLT, Nat.reduceLeDiff, reduceCtorEq, Bool.false_eq_true, Bool.not_true, Bool.not_false, and_self, Nat.le_refl, Val.fw]) (by simp only [fw0, fw1, fw2, fw3, fw4, fw5, fw6, fw7, ↓reduceIte, Nat.reduceAdd, Nat.reduceMul, Nat.reduceEqDiff, Nat.reduceLT, Nat.reduceLeDiff, reduceCtorEq, Bool.false_eq_true, Bool.not_true, Bool.not_false, and_self, Nat.le_refl] <;> rfl) (by unfold reachBytes at hl; rw [List.length_map]; show (l.length + 1) * 128 ≤ _; omega) (by unfold reachBytes at hl; rw [List.length_map]; show l.length + 1 ≤ _; omega) ?_
  refine dops_run 1 (by simp only [fw0, fw1, fw2, fw3, fw4, fw5, fw6, fw7, ↓reduceIte, Nat.reduceAdd, Nat.reduceMul, Nat.reduceEqDiff, Nat.reduceLT, Nat.reduceLeDiff, reduceCtorEq, Bool.false_eq_true, Bool.not_true, Bool.not_false, and_self, Nat.le_refl] <;> rfl) ?_
  refine dops_end ?_
  have hfl : ((l ++ [Bd.mk nm v]).map Bd.enc).flatten = (l.map Bd.enc).flatten ++ (PV.str nm :: v.enc) := by simp [Bd.enc_eq (Bd.mk nm v), Bd.name, Bd.v]
  refine awp_heap (H' := H ++ [.box v.enc, .row 9 (((l ++ [Bd.mk nm v]).map Bd.enc).flatten)]) (by rw [hfl]; simp) ?_
  refine awp_told (told_freezeAt H _ 1 (C := (((l ++ [Bd.mk nm v]).map Bd.enc).flatten)) rfl (flat_bd (fun b => by simp only [Bd.fw]) _)) ?_
  refine awp_ret (gives_end (.inl rfl) _ ?_)
  have hlf : (((l ++ [Bd.mk nm v]).map Bd.enc).flatten).length = (l.length + 1) * 9 := by rw [flat_len Bd.enc_len, List.length_append]; rfl
  have hch : chunk 9 (l.length + 1) (((l ++ [Bd.mk nm v]).map Bd.enc).flatten) = (l ++ [Bd.mk nm v]).map Bd.enc := by
    have := flat_chunk Bd.enc_len (l ++ [Bd.mk nm v])
    rwa [List.length_append] at this
  simp only [ares, aresL, ares1, alook, Tryd.f24, List.map_cons, frz, List.length_map, hlf, Nat.zero_add, and_self, ↓reduceIte, List.drop_zero, hch]

end Go.Proofs.YtinedfjknhahmaaDoor
