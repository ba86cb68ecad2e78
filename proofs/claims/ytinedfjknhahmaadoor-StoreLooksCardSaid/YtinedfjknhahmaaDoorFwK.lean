/- The framework, eleventh part: calls, contracts. -/
import Derived.Test.YtinedfjknhahmaaDoorFwJ
namespace Go.Proofs.YtinedfjknhahmaaDoor.Fw
set_option linter.unusedVariables false
set_option linter.unusedSimpArgs false
open Go.RowKit

/-- A call of f, begun where args are handed over and blocks H are known, returns what R takes. -/
def ACalls (P : Program) (Γ : Nat → PV) (f : FuncId) (args : List PV) (H : List Blk) (R : PV → List Blk → Prop) : Prop :=
  ∀ (w0 : World) (G : Ghost) (w : World) (vs : Array Value), Sim Γ w0 G H w → Reps G H.length args vs.toList →
    CallsIn Fence.wide 0 P f vs w fun e w' => ∃ v p H' G', e = .returned v ∧ Sim Γ w0 G' H' w' ∧ Rep G' H'.length p v ∧ Evol G H.length G' ∧ H.length ≤ H'.length ∧ R p H'

/-- A function that only computes. -/
def Gives (P : Program) (Γ : Nat → PV) (f : FuncId) (args : List PV) (p : PV) : Prop := ∀ H, ACalls P Γ f args H fun q H' => q = p ∧ H' = H

theorem ACalls.mono {P : Program} {Γ : Nat → PV} {f : FuncId} {args : List PV} {H : List Blk} {R R' : PV → List Blk → Prop} (h : ACalls P Γ f args H R) (hr : ∀ p H', R p H' → R' p H') : ACalls P Γ f args H R' :=
  fun w0 G w vs hs ha => (h w0 G w vs hs ha).mono fun _ _ ⟨v, p, H', G', h1, h2, h3, h4, h5, h6⟩ => ⟨v, p, H', G', h1, h2, h3, h4, h5, hr _ _ h6⟩

/-- The function has a text, and no other road. -/
def Enters (P : Program) (f : FuncId) : Prop := ∀ args w, (callFunc f args).run P w = .ok (.enter f args) w

theorem enters_of {P : Program} {f : FuncId} {fn : Func} (hf : P.funcs[f]? = some fn) (hn : (fn.name == "runtime.NumGoroutine") = false) (hb : fn.body.isNone = false) : Enters P f := fun args w => by
  have hn' : fn.name ≠ "runtime.NumGoroutine" := by simpa using hn
  obtain ⟨c, hc⟩ : ∃ c, fn.body = some c := by
    cases hbb : fn.body with
    | none => rw [hbb] at hb; cases hb
    | some c => exact ⟨c, rfl⟩
  simp [callFunc, program, Sem.run, hf, hn', hc]

section
variable {P : Program} {Γ : Nat → PV} {N : Nat} {A : List (Nat × PV)} {H : List Blk} {D : List Nat} {Q : Post} {o : Oper} {K : PV → List Blk → Prop}

theorem os_call {x : Operand} {args : Array Operand} {ts : Array TypeId} {f : FuncId} {fs cs : List PV} (ho : o.op = .call { callee := .value x, args := args, argTypes := ts }) (hx : ev Γ A x = .func (.func f) fs cs) (he : Enters P f)
    (h : ACalls P Γ f (fs ++ args.toList.map (ev Γ A) ++ cs) H K) : OStep P Γ o A H K := by
  intro ro w0 G w N a next Q hs ha hn
  refine wpIn_of_upon (by simp [ho]) ?_
  have hxr := ha.ev hs.glob x
  rw [hx] at hxr
  generalize hax : a.eval x = v at hxr
  cases hxr with
  | func _ _ _ _ fs' cs' h1 h2 h3 h4 =>
    have hrun : (execOp a.eval o).run P w = .ok (.enter f (fs' ++ args.map a.eval ++ cs')) w := by
      have he' : ∀ args w, (callFunc f args).run P w = .ok (.enter f args) w := he
      simp [execOp, ho, resolve, hax, Deferred.ofValue, invoke, he']
    rw [hrun]
    have hm := map_ev hs ha args
    have hreps : Reps G H.length (fs ++ args.toList.map (ev Γ A) ++ cs) (fs' ++ args.map a.eval ++ cs').toList := by
      rw [Array.toList_append, Array.toList_append]
      refine Reps.append (Reps.append ⟨by simpa using h1, fun i p v hp hv => h3 i p v hp (by simpa using hv)⟩ ⟨by simp, fun i p v hp hv => hm.2 i p v hp (by simpa using hv)⟩) ⟨by simpa using h2, fun i p v hp hv => h4 i p v hp (by simpa using hv)⟩
    refine ⟨fun hd => by simp [Fence.wide] at hd, ?_⟩
    have := h w0 G w _ hs hreps
    refine CallsIn.mono (F := Fr ro) this fun e w' he => ?_
    obtain ⟨v, p, H', G', rfl, h1, h2, h3, h4, h5⟩ := he
    exact hn v w' G' p H' h1 h2 h3 h4 h5

theorem os_fn {x : Operand} {args : Array Operand} {ts : Array TypeId} {f : FuncId} {fs cs : List PV} {p : PV} (ho : o.op = .call { callee := .value x, args := args, argTypes := ts }) (hx : ev Γ A x = .func (.func f) fs cs) (he : Enters P f)
    (h : Gives P Γ f (fs ++ args.toList.map (ev Γ A) ++ cs) p) (hk : K p H) : OStep P Γ o A H K :=
  os_call ho hx he ((h H).mono fun q H' ⟨h1, h2⟩ => by subst h1 h2; exact hk)

/-- Where the parameters lie. -/
def initA : Nat → List PV → List (Nat × PV)
  | _, [] => []
  | k, p :: ps => (k, p) :: initA (k + 1) ps

theorem initA_look : ∀ (ps : List PV) (k t : Nat), alook (initA k ps) t = if k ≤ t then (ps[t - k]?).getD .any else .any
  | [], k, t => by simp [initA, alook]
  | p :: ps, k, t => by
    simp only [initA, alook]
    by_cases h : t = k
    · subst h; simp
    · rw [if_neg h, initA_look ps (k + 1) t]
      by_cases h2 : k ≤ t
      · rw [if_pos (by omega), if_pos h2, show t - k = (t - (k + 1)) + 1 by omega, List.getElem?_cons_succ]
      · rw [if_neg (by omega), if_neg h2]

/-- A result, as the machine takes it. -/
def resVal (tmps : Array Value) : ResultVar → Sem Value
  | .tmp t => pure (tmps.getD t undef)
  | .cell a t => do loadVar t (← asAddr (tmps.getD a undef))
theorem results_eq (fn : Func) (tmps : Array Value) : results fn tmps = (do let vs ← fn.results.mapM (resVal tmps); pure (if h : vs.size = 1 then vs[0] else .tuple vs)) := rfl

/-- A result. -/
def ares1 (P : Program) (Γ : Nat → PV) (A : List (Nat × PV)) (H : List Blk) : ResultVar → Option PV
  | .tmp t => some (alook A t)
  | .cell t ty => match rd Γ A H (.tmp t), tiOf P ty with
    | some cs, some ti => if ti.agg then (if ti.size ≤ cs.length then some (.agg (cs.take ti.size)) else none) else cs[0]?
    | _, _ => none

def aresL (P : Program) (Γ : Nat → PV) (A : List (Nat × PV)) (H : List Blk) : List ResultVar → Option (List PV)
  | [] => some []
  | r :: rs => match ares1 P Γ A H r, aresL P Γ A H rs with
    | some p, some ps => some (p :: ps)
    | _, _ => none

def ares (P : Program) (Γ : Nat → PV) (A : List (Nat × PV)) (H : List Blk) (rs : List ResultVar) : Option PV :=
  match aresL P Γ A H rs with
  | some [p] => some p
  | some ps => some (.tup ps)
  | none => none

theorem ares1_spec {w0 w : World} {G : Ghost} {a : Act} {r : ResultVar} {p : PV} (hs : Sim Γ w0 G H w) (ha : ASim G H.length N A a) (h : ares1 P Γ A H r = some p) :
    ∃ v, (resVal a.tmps r).run P w = .ok v w ∧ Rep G H.length p v := by
  cases r with
  | tmp t =>
    simp only [ares1, Option.some.injEq] at h
    subst h
    exact ⟨_, rfl, ha.2 t⟩
  | cell t ty =>
    simp only [ares1] at h
    split at h
    · rename_i cs ti hr ht
      let o' : Oper := { dst := none, op := .load ty (.tmp t), type := 0, pos := "", after := #[], guard := none }
      obtain ⟨b, q, he, hc⟩ := rd_spec hs ha hr
      have he' : a.tmps.getD t undef = .pointer (some ⟨b, q, none⟩) := he
      have hop : OStep P Γ o' A H (fun p' H' => p' = p ∧ H' = H) := os_load (o := o') (p := p) rfl ht hr (by
        split at h
        · rename_i hag
          rw [if_pos hag]
          split at h
          · rename_i hle
            exact ⟨hle, (Option.some.inj h).symm⟩
          · cases h
        · rename_i hag
          rw [if_neg hag]
          exact h) ⟨rfl, rfl⟩
      have hrun := hop none w0 G w N a (fun a' w' => ∃ v, (loadVar ty ⟨b, q, none⟩).run P w = .ok v w ∧ Rep G H.length p v) (fun _ _ _ => False) hs ha
      obtain ⟨i, d, z, hi, hd, hz, hzs, hsz, _, _, hagg, _⟩ := tiOf_spec ht
      simp only [resVal, asAddr, he', Sem.run_bind]
      have hload : ∃ v, (loadVar ty ⟨b, q, none⟩).run P w = .ok v w ∧ Rep G H.length p v := by
        have hra : (isAgg ty).run P w = .ok ti.agg w := by rw [run_agg hd, hagg]
        by_cases hag : ti.agg = true
        · rw [if_pos hag] at h
          split at h
          · rename_i hle
            obtain rfl := Option.some.inj h
            have hv : ∀ j, j < ti.size → ∃ v, w.cell? ⟨b, q + j, none⟩ = some v ∧ Rep G H.length (cs.getD j .any) v ∧ v.oneCell' = true := fun j hj => by
              have hj' : j < cs.length := by omega
              obtain ⟨v, h1, h2, h3⟩ := hc j cs[j] (List.getElem?_eq_getElem hj')
              exact ⟨v, h1, by simpa [List.getD, hj'] using h2, h3⟩
            let f : Nat → Value := fun j => (w.cell? ⟨b, q + j, none⟩).getD undef
            have hf : ∀ j, j < ti.size → w.cell? ((⟨b, q, none⟩ : Addr).add j) = some (f j) := fun j hj => by
              rw [Fw.add_at]
              obtain ⟨v, h1, _⟩ := hv j hj
              simp [f, h1]
            refine ⟨.agg ((List.range ti.size).map f).toArray, by simp [loadVar, hra, hag, run_size hi, hsz, run_loadCells (P := P) w ⟨b, q, none⟩ ti.size f hf], .agg _ _ _ (by simp; omega) (fun j c v hcj hvj => ?_) (fun j v hvj => ?_)⟩
            · rw [List.getElem?_take] at hcj
              split at hcj
              · rename_i hj
                obtain ⟨v', h1, h2, _⟩ := hv j hj
                have : v = v' := by simp [hj, f, h1] at hvj; exact hvj.symm
                subst this
                have : cs.getD j .any = c := by simp [List.getD, hcj]
                rw [this] at h2; exact h2
              · cases hcj
            · have hj : j < ti.size := by
                by_cases hj : j < ti.size
                · exact hj
                · simp [hj] at hvj
              obtain ⟨v', h1, _, h3⟩ := hv j hj
              have : v = v' := by simp [hj, f, h1] at hvj; exact hvj.symm
              subst this; exact h3
          · cases h
        · rw [if_neg hag] at h
          obtain ⟨v, h1, h2, h3⟩ := hc 0 p h
          simp only [Nat.add_zero] at h1
          exact ⟨v, by simp [loadVar, hra, hag, h1], h2⟩
      obtain ⟨v, h1, h2⟩ := hload
      exact ⟨v, by simp [h1], h2⟩
    · cases h

theorem ares_spec {w0 w : World} {G : Ghost} {a : Act} {fn : Func} {p : PV} (hs : Sim Γ w0 G H w) (ha : ASim G H.length N A a) (h : ares P Γ A H fn.results.toList = some p) : ∃ v, (results fn a.tmps).run P w = .ok v w ∧ Rep G H.length p v := by
  have key : ∀ (g : ResultVar → Sem Value), (∀ r p, ares1 P Γ A H r = some p → ∃ v, (g r).run P w = .ok v w ∧ Rep G H.length p v) → ∀ (l : List ResultVar) (ps : List PV), aresL P Γ A H l = some ps →
      ∃ vs, (l.mapM g).run P w = .ok vs w ∧ Reps G H.length ps vs := by
    intro g hg l
    induction l with
    | nil => intro ps h; simp only [aresL, Option.some.injEq] at h; subst h; exact ⟨[], by simp, Reps.nil _ _⟩
    | cons r l ih =>
      intro ps h
      simp only [aresL] at h
      split at h
      · rename_i p ps' h1 h2
        obtain rfl := Option.some.inj h
        obtain ⟨v, h3, h4⟩ := hg r p h1
        obtain ⟨vs, h5, h6⟩ := ih ps' h2
        exact ⟨v :: vs, by rw [List.mapM_cons]; simp [h3, h5], Reps.cons h4 h6⟩
      · cases h
  unfold ares at h
  have hres : ∀ ps, aresL P Γ A H fn.results.toList = some ps → ∃ vs : List Value, (results fn a.tmps).run P w = .ok (if h : vs.toArray.size = 1 then vs.toArray[0] else .tuple vs.toArray) w ∧ Reps G H.length ps vs := by
    intro ps hp
    obtain ⟨vs, h1, h2⟩ := key _ (fun r p hr => ares1_spec hs ha hr) _ ps hp
    refine ⟨vs, ?_, h2⟩
    rw [results_eq, Sem.run_bind, Array.mapM_eq_mapM_toList, Sem.run_map, h1]
    rfl
  split at h
  · rename_i q hq
    obtain rfl := Option.some.inj h
    obtain ⟨vs, h1, h2⟩ := hres _ hq
    obtain ⟨v, vs', rfl, h3, h4⟩ := h2.cons_inv
    have hv : vs' = [] := by have := h4.1; cases vs' with
      | nil => rfl
      | cons _ _ => simp at this
    subst hv
    exact ⟨v, by simpa using h1, h3⟩
  · rename_i ps hne hps
    obtain rfl := Option.some.inj h
    obtain ⟨vs, h1, h2⟩ := hres _ hps
    refine ⟨.tuple vs.toArray, ?_, .tup _ _ _ (by simpa using h2.1) fun i c v hc hv => h2.2 i c v hc (by simpa using hv)⟩
    rw [h1, dif_neg]
    intro hl
    have : ps.length = 1 := by rw [h2.1]; simpa using hl
    match ps, this with
    | [q], _ => exact hne q rfl
  · cases h

/-- What a body must come to. -/
def RetQ (P : Program) (Γ : Nat → PV) (fn : Func) (n : Nat) (R : PV → List Blk → Prop) : Post := fun e A H D =>
  (e = .ret ∨ e = .normal) ∧ D.Nodup ∧ (∀ b ∈ D, H[b]? = some .dfr) ∧ ∃ p m, ares P Γ A H fn.results.toList = some p ∧ n ≤ m ∧ m ≤ H.length ∧ (∀ b ∈ D, m ≤ b) ∧ p.bd m = true ∧ (∀ B ∈ H.take m, B.bd m = true) ∧ R p (H.take m)

theorem Sim.take_dfr {w0 w : World} {G : Ghost} (hs : Sim Γ w0 G H w) {m : Nat} (hm : m ≤ H.length) (hB : ∀ B ∈ H.take m, B.bd m = true) : Sim Γ w0 G (H.take m) w := hs.take m hm hB

theorem leaves_dfr {w0 : World} {fn : Func} {G : Ghost} {n m : Nat} {p : PV} {R : PV → List Blk → Prop} {a : Act} {H0 : List Blk} (hm : m ≤ H0.length) (hn : n ≤ m) (hp : p.bd m = true) (hB : ∀ B ∈ H0.take m, B.bd m = true) (hR : R p (H0.take m)) (G0 : Ghost) (he : Evol G0 n G) :
    ∀ (D : List Nat) (ds : List Deferred) (H : List Blk) (w : World), DSim G H.length D ds → H.take m = H0.take m → H.length = H0.length → Sim Γ w0 G H w → ASim G H.length N A a → (∀ b ∈ D, H[b]? = some .dfr) → (∀ b ∈ D, m ≤ b) → D.Nodup →
    (∀ (H' : List Blk), H'.length = H.length → (∀ (k : Nat) cs, H[k]? = some (.box cs) → H'[k]? = some (.box cs)) → (∀ (k sz : Nat) cs, H[k]? = some (.row sz cs) → H'[k]? = some (.row sz cs)) → ares P Γ A H' fn.results.toList = some p) →
    LeavesInM Fence.wide 0 P fn a.tmps (fun e w' => ∃ v p H' G', e = .returned v ∧ Sim Γ w0 G' H' w' ∧ Rep G' H'.length p v ∧ Evol G0 n G' ∧ n ≤ H'.length ∧ R p H') ds .returning w
  | [], ds, H, w, hd, ht, hl, hs, ha, _, _, _, hares => by
    rw [hd.1]
    obtain ⟨v, h1, h2⟩ := ares_spec hs ha (hares H rfl (fun _ _ h => h) (fun _ _ _ h => h))
    refine ⟨v, h1, v, p, H.take m, G, rfl, hs.take m (by omega) (by rw [ht]; exact hB), ?_, he, ?_, by rw [ht]; exact hR⟩
    · rw [List.length_take, Nat.min_eq_left (by omega)]; exact h2.cut m hp
    · rw [List.length_take, Nat.min_eq_left (by omega)]; exact hn
  | b :: D, ds, H, w, hd, ht, hl, hs, ha, hdf, hmb, hnd, hares => by
    rw [hd.1]
    simp only [List.map_cons, LeavesInM]
    have hb := hdf b (by simp)
    have hblk := hs.blk b _ hb
    have hbl := (List.getElem?_eq_some_iff.1 hb).1
    refine ⟨by simp, .inl ⟨_, _, rfl, run_takeDeferred hblk.2, ?_⟩⟩
    have hs' : Sim Γ w0 G (H.set b .dead) (w.putObj (G.info b).blk (.deferred none)) := by
      have hown := hs.own b _ hb rfl
      refine hs.setSame hb rfl (fun k hk => World.putObj_heap_other hk) (by simp) ⟨rfl, rfl, rfl⟩ trivial
    refine leaves_dfr hm hn hp hB hR G0 he D _ (H.set b .dead) _ ⟨rfl, fun c hc => by have := hd.2 c (by simp [hc]); simpa using this⟩ ?_ (by simp [hl]) hs' (by simpa using ha) (fun c hc => ?_) (fun c hc => hmb c (by simp [hc])) (List.nodup_cons.1 hnd).2 (fun H' hl' h1 h2 => ?_)
    · rw [List.take_set_of_le (hmb b (by simp))]; exact ht
    · have hne : c ≠ b := fun e => (List.nodup_cons.1 hnd).1 (e ▸ hc)
      rw [List.getElem?_set_ne (Ne.symm hne)]; exact hdf c (by simp [hc])
    · refine hares H' (by simpa using hl') (fun k cs hk => h1 k cs ?_) (fun k sz cs hk => h2 k sz cs ?_)
      · have hne : k ≠ b := fun e => by subst e; rw [hb] at hk; cases hk
        rw [List.getElem?_set_ne (Ne.symm hne)]; exact hk
      · have hne : k ≠ b := fun e => by subst e; rw [hb] at hk; cases hk
        rw [List.getElem?_set_ne (Ne.symm hne)]; exact hk

theorem rd_keep {H' : List Blk} {x : Operand} {cs : List PV} (h1 : ∀ (k : Nat) cs, H[k]? = some (.box cs) → H'[k]? = some (.box cs)) (h2 : ∀ (k sz : Nat) cs, H[k]? = some (.row sz cs) → H'[k]? = some (.row sz cs)) (h : rd Γ A H x = some cs) : rd Γ A H' x = some cs := by
  unfold rd at h ⊢
  split at h
  · exact h
  · split at h
    · rename_i hb; rw [h1 _ _ hb]; exact h
    · cases h
  · split at h
    · rename_i hb; rw [h2 _ _ _ hb]; exact h
    · cases h
  · cases h

theorem aresL_keep {H' : List Blk} (h1 : ∀ (k : Nat) cs, H[k]? = some (.box cs) → H'[k]? = some (.box cs)) (h2 : ∀ (k sz : Nat) cs, H[k]? = some (.row sz cs) → H'[k]? = some (.row sz cs)) : ∀ {l : List ResultVar} {ps : List PV}, aresL P Γ A H l = some ps → aresL P Γ A H' l = some ps
  | [], _, h => h
  | r :: l, ps, h => by
    simp only [aresL] at h ⊢
    split at h
    · rename_i p ps' hp hps
      have e1 : ares1 P Γ A H' r = some p := by
        cases r with
        | tmp t => exact hp
        | cell t ty =>
          simp only [ares1] at hp ⊢
          split at hp
          · rename_i cs ti hr ht
            rw [rd_keep h1 h2 hr, ht]; exact hp
          · cases hp
      rw [e1, aresL_keep h1 h2 hps]; exact h
    · cases h

/-- A contract out of the body. -/
theorem acalls_of_awp {f : FuncId} {fn : Func} {c : Code} {args : List PV} {R : PV → List Blk → Prop} (hf : P.funcs[f]? = some fn) (hb : fn.body = some c) (hN : args.length ≤ fn.ntmps)
    (h : (∀ B ∈ H, B.bd H.length = true) → AWP P Γ fn.ntmps none c (initA 0 args) H [] (RetQ P Γ fn H.length R)) : ACalls P Γ f args H R := by
  intro w0 G w vs hs hr
  have hl : args.length = vs.size := hr.1.trans Array.length_toList
  refine callsIn_of_wp_marks hf hb trivial ?_
  have ha : ASim G H.length fn.ntmps (initA 0 args) { tmps := vs ++ Array.replicate (fn.ntmps - vs.size) undef, defers := [] } := by
    refine ⟨by simp; omega, fun t => ?_⟩
    rw [initA_look, if_pos (Nat.zero_le _), Nat.sub_zero]
    cases hp : args[t]? with
    | none => exact .any _ _
    | some p =>
      have ht := (List.getElem?_eq_some_iff.1 hp).1
      have hv : vs.toList[t]? = some (vs[t]'(by omega)) := by rw [Array.getElem?_toList]; exact Array.getElem?_eq_getElem (by omega)
      have : (vs ++ Array.replicate (fn.ntmps - vs.size) undef).getD t undef = vs[t]'(by omega) := by
        rw [Array.getD_eq_getD_getElem?, Array.getElem?_append_left (by omega), Array.getElem?_eq_getElem (by omega)]; rfl
      rw [this]
      exact hr.2 t p _ hp hv
  refine wpIn_mono (h hs.bound w0 G w _ hs ha (DSim.nil _ _)) fun e a' w' hl' => ?_
  obtain ⟨G', A', H', D', h1, h2, h3, h4, h5, h6, h7, h8, p, m, h9, h10, h11, h12, h13, h14, h15⟩ := hl'
  have key := leaves_dfr (P := P) (N := fn.ntmps) (A := A') (fn := fn) (H0 := H') h11 h10 h13 h14 h15 G h4 D' a'.defers H' w' h3 rfl rfl h1 h2 h8 h12 h7 (fun H'' _ e1 e2 => by
    unfold ares at h9 ⊢
    split at h9
    · rename_i q hq; rw [aresL_keep e1 e2 hq]; exact h9
    · rename_i ps hne hps
      rw [aresL_keep e1 e2 hps]
      split
      · rename_i q hq; exact absurd hq (by intro hq'; cases hq'; exact hne q rfl)
      · rename_i hq; cases hq; exact h9
      · rename_i hq; cases hq
    · cases h9)
  rcases h6 with rfl | rfl <;> exact key

/-- A function that only computes, out of its body: what its own blocks held is forgotten. -/
theorem fn_of_awp {f : FuncId} {fn : Func} {c : Code} {args : List PV} {p : PV} (hf : P.funcs[f]? = some fn) (hb : fn.body = some c) (hN : args.length ≤ fn.ntmps) (hp : p.plain = true)
    (h : ∀ H, AWP P Γ fn.ntmps none c (initA 0 args) H [] (fun e A' H' D' => (e = .ret ∨ e = .normal) ∧ D'.Nodup ∧ (∀ b ∈ D', H'[b]? = some .dfr ∧ H.length ≤ b) ∧ ares P Γ A' H' fn.results.toList = some p ∧ ∃ L, H' = H ++ L)) : Gives P Γ f args p := by
  intro H
  refine acalls_of_awp hf hb hN fun hbd => (h H).mono fun e A' H' D' ⟨h1, h2, h3, h4, L, h5⟩ => ?_
  subst h5
  have ht : (H ++ L).take H.length = H := List.take_left' rfl
  refine ⟨h1, h2, fun b hb => (h3 b hb).1, p, H.length, h4, Nat.le_refl _, by simp, fun b hb => (h3 b hb).2, PV.bd_mono (Nat.zero_le _) p hp, by rw [ht]; exact hbd, rfl, ht⟩

end
end Go.Proofs.YtinedfjknhahmaaDoor.Fw
