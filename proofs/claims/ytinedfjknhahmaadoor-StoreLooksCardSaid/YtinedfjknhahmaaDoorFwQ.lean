/- The framework, seventeenth part: loops over functions. -/
import Derived.Test.YtinedfjknhahmaaDoorFwP
namespace Go.Proofs.YtinedfjknhahmaaDoor.Fw
set_option linter.unusedVariables false
set_option linter.unusedSimpArgs false
open Go.RowKit

/-- The temporaries that a round begins with. -/
def roundTmps (rec : Loop) (vs : Array Value) : Array Value := (rec.params.zip vs).foldl (fun tmps (t, a) => tmps.setIfInBounds t a) rec.tmps

/-- One round of a loop whose record is block l, with parameters ps. -/
def ARound (P : Program) (Γ : Nat → PV) (l : Nat) (rec : Loop) (ps : List PV) (H : List Blk) (R : Bool → List Blk → Prop) : Prop :=
  ∀ (w0 : World) (G : Ghost) (w : World) (vs : Array Value), Sim Γ w0 G H w → Reps G H.length ps vs.toList →
    RoundIn Fence.wide 0 P (G.info l).blk rec.fn (roundTmps rec vs) rec.assign rec.body w fun e w' => ∃ b G' H', e = .returned (.bool b) ∧ Sim Γ w0 G' H' w' ∧ Evol G H.length G' ∧ H.length ≤ H'.length ∧ R b H'

theorem ARound.mono {P : Program} {Γ : Nat → PV} {l : Nat} {rec : Loop} {ps : List PV} {H : List Blk} {R R' : Bool → List Blk → Prop} (h : ARound P Γ l rec ps H R) (hr : ∀ b H', R b H' → R' b H') : ARound P Γ l rec ps H R' :=
  fun w0 G w vs hs hv => (h w0 G w vs hs hv).mono fun _ _ ⟨b, G', H', h1, h2, h3, h4, h5⟩ => ⟨b, G', H', h1, h2, h3, h4, hr _ _ h5⟩

section
variable {P : Program} {Γ : Nat → PV} {N : Nat} {ro : Option Nat} {A : List (Nat × PV)} {H : List Blk} {D : List Nat} {Q : Post} {o : Oper} {K : PV → List Blk → Prop}

theorem Rep.yld_inv {G : Ghost} {n b : Nat} {v : Value} (h : Rep G n (.yld b) v) : v = .func (.yield (G.info b).blk) #[] #[] := by cases h; rfl

/-- A call of yield. -/
theorem os_yield {x : Operand} {args : Array Operand} {ts : Array TypeId} {l : Nat} {rec : Loop} {cs : List PV} (ho : o.op = .call { callee := .value x, args := args, argTypes := ts }) (hx : ev Γ A x = .yld l) (hl : H[l]? = some (.loop rec cs))
    (hn : args.size = rec.params.size) (h : ARound P Γ l rec (args.toList.map (ev Γ A)) H (fun b H' => K (.bool b) H')) : OStep P Γ o A H K := by
  intro ro w0 G w N a next Q hs ha hnx
  refine wpIn_of_upon (by simp [ho]) ?_
  have hxr := ha.ev hs.glob x
  rw [hx] at hxr
  have hax := hxr.yld_inv
  obtain ⟨_, hlp, _⟩ := hs.blk l _ hl
  have hrun : (execOp a.eval o).run P w = .ok (.round (G.info l).blk rec.fn (roundTmps rec (args.map a.eval)) rec.assign rec.body) w := by
    have hy := run_yield (P := P) (args := args.map a.eval) hlp (by simpa using hn)
    simp [execOp, ho, resolve, hax, Deferred.ofValue, invoke, hy, roundTmps]
  rw [hrun, Oper.uponIn_round]
  have hm := map_ev hs ha args
  refine ⟨fun hd => by simp [Fence.wide] at hd, ?_⟩
  refine RoundIn.mono (F := Fr ro) (h w0 G w (args.map a.eval) hs ⟨by simp, fun i p v hp hv => hm.2 i p v hp (by simpa using hv)⟩) fun e w' he => ?_
  obtain ⟨b, G', H', rfl, h1, h2, h3, h4⟩ := he
  exact hnx _ w' G' _ H' h1 (.bool _ _) h2 h3 h4

/-- The slots that a round begins with. -/
def yieldA (params : List Tmp) (ps : List PV) (A : List (Nat × PV)) : List (Nat × PV) := (params.zip ps).foldl (fun A tp => (tp.1, tp.2) :: A) A

theorem foldTmps_size (l : List (Tmp × Value)) (t0 : Array Value) : (l.foldl (fun tmps (x : Tmp × Value) => tmps.setIfInBounds x.1 x.2) t0).size = t0.size := by
  induction l generalizing t0 with
  | nil => rfl
  | cons x l ih => rw [List.foldl_cons, ih]; simp

theorem foldTmps_sim {G : Ghost} {n : Nat} : ∀ (params : List Tmp) (ps : List PV) (vs : List Value) (A : List (Nat × PV)) (t0 : Array Value), Reps G n ps vs → (∀ t ∈ params, t < t0.size) →
    (∀ t, Rep G n (alook A t) (t0.getD t undef)) → ∀ t, Rep G n (alook (yieldA params ps A) t) (((params.zip vs).foldl (fun tmps (x : Tmp × Value) => tmps.setIfInBounds x.1 x.2) t0).getD t undef)
  | [], _, _, _, _, _, _, h => h
  | p :: params, [], [], _, _, _, _, h => h
  | p :: params, q :: ps, v :: vs, A, t0, hr, hlt, h => by
    simp only [yieldA, List.zip_cons_cons, List.foldl_cons]
    refine foldTmps_sim params ps vs ((p, q) :: A) (t0.setIfInBounds p v) ⟨by simpa using hr.1, fun i c u hc hu => hr.2 (i + 1) c u (by simpa using hc) (by simpa using hu)⟩ (fun t ht => by simpa using hlt t (by simp [ht])) fun t => ?_
    simp only [alook]
    by_cases e : t = p
    · subst e
      rw [if_pos rfl]
      have ht := hlt t (by simp)
      have : (t0.setIfInBounds t v).getD t undef = v := by
        rw [Array.getD_eq_getD_getElem?, Array.getElem?_setIfInBounds_self]; simp [ht]
      rw [this]
      exact hr.2 0 q v rfl rfl
    · rw [if_neg e]
      have : (t0.setIfInBounds p v).getD t undef = t0.getD t undef := by
        rw [Array.getD_eq_getD_getElem?, Array.getElem?_setIfInBounds_ne (Ne.symm e), ← Array.getD_eq_getD_getElem?]
      rw [this]; exact h t
  | _ :: _, [], _ :: _, _, _, hr, _, _ => by have := hr.1; simp at this
  | _ :: _, _ :: _, [], _, _, hr, _, _ => by have := hr.1; simp at this

theorem round_asim {G : Ghost} {n : Nat} {rec : Loop} {cs ps : List PV} {vs : Array Value} (hc : Reps G n cs rec.tmps.toList) (hp : ∀ t ∈ rec.params.toList, t < rec.tmps.size) (hv : Reps G n ps vs.toList) :
    ASim G n rec.tmps.size (yieldA rec.params.toList ps (initA 0 cs)) { tmps := roundTmps rec vs, defers := [] } := by
  have hfold : roundTmps rec vs = (rec.params.toList.zip vs.toList).foldl (fun tmps (x : Tmp × Value) => tmps.setIfInBounds x.1 x.2) rec.tmps := by
    unfold roundTmps
    rw [← Array.foldl_toList, Array.toList_zip]
  refine ⟨by show (roundTmps rec vs).size = _; rw [hfold, foldTmps_size], fun t => ?_⟩
  show Rep G n _ ((roundTmps rec vs).getD t undef)
  rw [hfold]
  refine foldTmps_sim _ _ _ _ _ hv hp (fun t => ?_) t
  rw [initA_look, if_pos (Nat.zero_le _), Nat.sub_zero]
  cases hx : cs[t]? with
  | none => exact .any _ _
  | some p =>
    have ht := (List.getElem?_eq_some_iff.1 hx).1
    have hl : cs.length = rec.tmps.size := by simpa using hc.1
    have : rec.tmps.getD t undef = rec.tmps[t]'(by omega) := by
      rw [Array.getD_eq_getD_getElem?, Array.getElem?_eq_getElem (by omega)]; rfl
    rw [this]
    exact hc.2 t p _ hx (by rw [Array.getElem?_toList]; exact Array.getElem?_eq_getElem (by omega))

def busy (rec : Loop) : Loop := { rec with state := .busy }
def ended (rec : Loop) (jump : Option Code) : Loop := { rec with state := if jump.isNone then .ready else .done, pending := jump }

/-- How a round's body may be left. -/
def jumpOf : Exit → Option (Option Code)
  | .normal => some none
  | .ret => some (some .ret)
  | .exit id => some (some (.exit id))
  | _ => none

theorem Sim.setLoop {w0 w : World} {G : Ghost} {l : Nat} {rec rec' : Loop} {cs : List PV} (hs : Sim Γ w0 G H w) (hl : H[l]? = some (.loop rec cs)) (ht : rec'.tmps = rec.tmps) : Sim Γ w0 G (H.set l (.loop rec' cs)) (w.putObj (G.info l).blk (.loop rec')) := by
  obtain ⟨h1, h2, h3⟩ := hs.blk l _ hl
  refine hs.setSame hl rfl (fun k hk => World.putObj_heap_other hk) (by simp) ⟨rfl, rfl, rfl⟩ ⟨h1, World.putObj_heap_same (Array.getElem?_eq_some_iff.1 h2).1, by rw [ht]; exact h3⟩

/-- A round out of its body. -/
theorem around_of_awp {l : Nat} {rec : Loop} {cs ps : List PV} {R : Bool → List Blk → Prop} (hready : rec.state = .ready) (hl : H[l]? = some (.loop rec cs)) (hp : ∀ t ∈ rec.params.toList, t < rec.tmps.size)
    (h : (∀ B ∈ H, B.bd H.length = true) → ∀ ro, AWP P Γ rec.tmps.size ro rec.assign (yieldA rec.params.toList ps (initA 0 cs)) H [] (Post.then (fun A' H' D' => D' = [] ∧ H'[l]? = some (.loop rec cs) ∧
      AWP P Γ rec.tmps.size ro rec.body A' (H'.set l (.loop (busy rec) cs)) [] (fun e _ H2 _ => ∃ jump m, jumpOf e = some jump ∧ H2[l]? = some (.loop (busy rec) cs) ∧ H.length ≤ m ∧ m ≤ H2.length ∧ (∀ B ∈ (H2.set l (.loop (ended rec jump) cs)).take m, B.bd m = true) ∧ R jump.isNone ((H2.set l (.loop (ended rec jump) cs)).take m))) (fun _ _ _ _ => False))) :
    ARound P Γ l rec ps H R := by
  intro w0 G w vs hs hv
  obtain ⟨hi, hw, hc⟩ := hs.blk l _ hl
  have hll := (List.getElem?_eq_some_iff.1 hl).1
  have keepInfo : ∀ {G1 : Ghost}, Evol G H.length G1 → (G1.info l).blk = (G.info l).blk := fun he => by
    rcases he.info l hll with e | ⟨r, _, _⟩
    · rw [e]
    · rw [hi] at r; cases r
  refine roundIn_of_wpIn trivial ?_
  have h1 := h hs.bound (some (G.info l).blk) w0 G w _ hs (round_asim hc hp hv) (DSim.nil _ _)
  refine wpIn_mono h1 fun e a1 w1 hl1 => ?_
  obtain ⟨G1, A1, H1, D1, k1, k2, k3, k4, k5, k6⟩ := hl1
  cases e with
  | normal =>
    obtain ⟨rfl, hl1, k6⟩ := k6
    obtain ⟨_, hw1, _⟩ := k1.blk l _ hl1
    rw [keepInfo k4] at hw1
    refine ⟨_, run_beginRound hw1 hready, ?_⟩
    have hs2 : Sim Γ w0 G1 (H1.set l (.loop (busy rec) cs)) (w1.putObj (G.info l).blk (.loop (busy rec))) := by
      have := k1.setLoop (rec' := busy rec) hl1 rfl
      rw [keepInfo k4] at this
      exact this
    have h2 := k6 w0 G1 _ a1 hs2 (by simpa using k2) (by simpa using k3)
    refine wpIn_mono h2 fun e a2 w2 hl2 => ?_
    obtain ⟨G2, A2, H2, D2, m1, m2, m3, m4, m5, jump, mm, m6, m7, m9, m10, m11, m8⟩ := hl2
    have m4' : Evol G H.length G2 := k4.trans m4 (by simpa using k5)
    obtain ⟨_, hw2, _⟩ := m1.blk l _ m7
    rw [keepInfo m4'] at hw2
    have fin : ∃ v w', (Instr.endRound (G.info l).blk jump).run P w2 = .ok v w' ∧ ∃ b G' H', Ending.returned v = .returned (.bool b) ∧ Sim Γ w0 G' H' w' ∧ Evol G H.length G' ∧ H.length ≤ H'.length ∧ R b H' := by
      refine ⟨_, _, run_endRound jump hw2, jump.isNone, G2, _, rfl, ?_, m4', ?_, m8⟩
      · have := m1.setLoop (rec' := ended rec jump) m7 rfl
        rw [keepInfo m4'] at this
        exact this.take mm (by simpa using m10) m11
      · rw [List.length_take, List.length_set]
        omega
    cases e with
    | normal => cases m6; exact fin
    | ret => cases m6; exact fin
    | exit id => cases m6; exact fin
    | goto t => cases m6
    | panic ch => cases m6
    | outgrown => cases m6
  | _ => exact k6

/-- A function that hands on a list of parameters, one behind another, until it is told to stop. Need: what it needs of the blocks. -/
def AIter (P : Program) (Γ : Nat → PV) (gf : FuncId) (caps : List PV) (Need : List Blk → Prop) (np : Nat) (xs : List (List PV)) : Prop :=
  ∀ (l n0 : Nat) (Inv : Nat → List Blk → Prop) (Stop : List Blk → Prop),
    (∀ i Hb, Inv i Hb → Need Hb ∧ Hb.length = n0 ∧ ∃ rec cs, Hb[l]? = some (.loop rec cs) ∧ rec.params.size = np ∧
      ∀ x E, xs[i]? = some x → ARound P Γ l rec x (Hb ++ E) (fun b H' => ∃ Hb', H' = Hb' ++ E ∧ if b = true then Inv (i + 1) Hb' else (Hb'.length = n0 ∧ Stop Hb'))) →
    ∀ Hb, Inv 0 Hb → ACalls P Γ gf (.yld l :: caps) Hb (fun _ H' => Inv xs.length H' ∨ (H'.length = n0 ∧ Stop H'))

theorem dense_look {l : List PV} {t : Nat} : alook (initA 0 l) t = (l[t]?).getD .any := by
  rw [initA_look, if_pos (Nat.zero_le _), Nat.sub_zero]

/-- All slots, one behind another. -/
def dense (N : Nat) (A : List (Nat × PV)) : List PV := (List.range N).map (alook A)

theorem awp_rangeFunc {g : Operand} {ps : Array Tmp} {assign body : Code} {gf : FuncId} {caps : List PV} {Need : List Blk → Prop} {xs : List (List PV)}
    (hg : ev Γ A g = .func (.func gf) [] caps) (he : Enters P gf) (hit : AIter P Γ gf caps Need ps.size xs) (hps : ps.all (fun t => decide (t < N)) = true)
    (J : Nat → List Blk → Prop) (X : Code → List Blk → Prop) (h0 : J 0 H) (hJ : ∀ i H', J i H' → H'.length = H.length ∧ ∀ L, Need (H' ++ L))
    (hround : ∀ i x H' L L' ro, xs[i]? = some x → J i H' → 2 ≤ L.length → L'.length = L.length → (∀ B ∈ H' ++ L, B.bd (H' ++ L).length = true) → (∀ B ∈ L', B.bd (H' ++ L).length = true) →
      AWP P Γ N ro assign (yieldA ps.toList x (initA 0 (dense N A))) (H' ++ L) [] (Post.then (fun A1 H1 D1 => D1 = [] ∧ ∃ Ha M, Ha.length = H.length ∧ H1 = Ha ++ L ++ M ∧
        AWP P Γ N ro body A1 (Ha ++ L' ++ M) [] (fun e _ H2 _ => ∃ Hb M', Hb.length = H.length ∧ H2 = Hb ++ L' ++ M' ∧ (∀ B ∈ Hb, B.bd (H.length + L'.length) = true) ∧ match e with | .normal => J (i + 1) Hb | .ret => X .ret Hb | .exit id => X (.exit id) Hb | _ => False)) (fun _ _ _ _ => False)))
    (hdone : ∀ Hf B, J xs.length Hf → Q .normal A (Hf ++ [.dfr, B]) (H.length :: D))
    (hstop : ∀ c Hf B, X c Hf → Hf.length = H.length → AWP P Γ N none c A (Hf ++ [.dfr, B]) (H.length :: D) Q) : AWP P Γ N none (.rangeFunc g ps assign body) A H D Q := by
  intro w0 G w a hs ha hd
  refine wpIn_rangeFunc fun fn _ => ?_
  have hgr := ha.ev hs.glob g
  rw [hg] at hgr
  generalize hga : a.eval g = gv at hgr
  cases hgr with
  | func _ _ _ _ fs' cs' g1 g2 g3 g4 =>
    have hfs : fs' = #[] := by
      have : fs'.size = 0 := by simpa using g1.symm
      exact Array.eq_empty_of_size_eq_zero this
    subst hfs
    -- the two blocks
    let i1 : Info := { blk := w.heap.size, len := 0, size := 0, sub := 0, isRow := false }
    have p1 := hs.push i1 .dfr (w.alloc (.deferred (some []))) (hs.below.alloc hs.size _) (by simp) (fun k hk => Below.heap_alloc _ _ _ hk)
      ⟨rfl, by show (w.heap.push _)[w.heap.size]? = _; simp⟩ (fun _ => ⟨Nat.le_refl _, by simp [i1]⟩)
    let rc : Loop := { state := .ready, pending := none, fn := fn, tmps := a.tmps, params := ps, assign := assign, body := body, defers := w.heap.size }
    let i2 : Info := { blk := w.heap.size + 1, len := 0, size := 0, sub := 0, isRow := false }
    let G1 := G.setInfo H.length i1
    have hal : (H ++ [Blk.dfr]).length = H.length + 1 := by simp
    have hreps : Reps G H.length (dense N A) a.tmps.toList := ⟨by simp [dense, ha.1], fun j p v hp hv => by
      simp only [dense, List.getElem?_map] at hp
      obtain ⟨k, hk, rfl⟩ := Option.map_eq_some_iff.1 hp
      have hjk : k = j := by
        rw [List.getElem?_range (by have := (List.getElem?_eq_some_iff.1 hk).1; simpa using this)] at hk
        exact (Option.some.inj hk).symm
      subst hjk
      have := ha.2 k
      have hvk : a.tmps.getD k undef = v := by
        rw [Array.getD_eq_getD_getElem?]
        rw [Array.getElem?_toList] at hv
        rw [hv]; rfl
      rw [hvk] at this
      exact this⟩
    have p2 := p1.1.push i2 (.loop rc (dense N A)) ((w.alloc (.deferred (some []))).alloc (.loop rc)) (p1.1.below.alloc p1.1.size _) (by simp) (fun k hk => Below.heap_alloc _ _ _ hk)
      (by
        refine ⟨rfl, by show ((w.heap.push _).push _)[w.heap.size + 1]? = _; rw [Array.getElem?_push]; simp, ?_⟩
        refine (hreps.mono p1.2 (Nat.le_succ _)).mono (m := (H ++ [Blk.dfr]).length + 1) ?_ (by simp)
        exact ⟨fun _ _ h => h, fun b hb => .inl (Ghost.setInfo_other _ _ (by omega))⟩) (fun _ => ⟨by simp [i2], by simp [i2]⟩)
    have hev : Evol G H.length ((G.setInfo H.length i1).setInfo (H ++ [Blk.dfr]).length i2) := p1.2.trans p2.2 (by simp)
    have hblk1 : (((G.setInfo H.length i1).setInfo (H ++ [Blk.dfr]).length i2).info H.length).blk = w.heap.size := by
      rw [Ghost.setInfo_other _ _ (by simp), Ghost.setInfo_same]
    have hblk2 : (((G.setInfo H.length i1).setInfo (H ++ [Blk.dfr]).length i2).info (H.length + 1)).blk = w.heap.size + 1 := by
      rw [hal, Ghost.setInfo_same]
    generalize hG2 : (G.setInfo H.length i1).setInfo (H ++ [Blk.dfr]).length i2 = G2 at p2 hev hblk1 hblk2
    have hL : H ++ [Blk.dfr] ++ [Blk.loop rc (dense N A)] = H ++ [Blk.dfr, Blk.loop rc (dense N A)] := by simp
    rw [hL] at p2
    have hr2 : (G2.info (H.length + 1)).isRow = false := by rw [← hG2, hal, Ghost.setInfo_same]
    have hr1 : (G2.info H.length).isRow = false := by rw [← hG2, Ghost.setInfo_other _ _ (by simp), Ghost.setInfo_same]
    refine ⟨w.heap.size + 1, [{ target := .collected w.heap.size, args := #[] }], _, { target := .fn (.func gf) cs', args := #[.func (.yield (w.heap.size + 1)) #[] #[]] }, (w.alloc (.deferred (some []))).alloc (.loop rc), gf, #[.func (.yield (w.heap.size + 1)) #[] #[]] ++ cs', (w.alloc (.deferred (some []))).alloc (.loop rc),
      run_enterLoop_outer (P := P) (w := w) fn a.tmps ps assign body, ?_, fun _ _ => trivial, ?_, fun h => by simp [Fence.wide] at h, ?_⟩
    · simp [resolve, rangeCall, hga, Deferred.ofValue]; exact ⟨rfl, rfl⟩
    · have he' : ∀ args w, (callFunc gf args).run P w = .ok (.enter gf args) w := he
      simp [invoke, he']
    · have hN : a.tmps.size = N := ha.1
      let Rec (r : Loop) : Prop := r.params = ps ∧ r.assign = assign ∧ r.body = body ∧ r.tmps = a.tmps
      have hcall := hit (H.length + 1) (H.length + 2) (fun i Hb => ∃ Hf r, Hb = Hf ++ [.dfr, .loop r (dense N A)] ∧ Rec r ∧ r.state = .ready ∧ r.pending = none ∧ J i Hf)
        (fun Hb => ∃ Hf r c, Hb = Hf ++ [.dfr, .loop r (dense N A)] ∧ Rec r ∧ r.state = .done ∧ r.pending = some c ∧ X c Hf) (fun i Hb hI => by
          obtain ⟨Hf, r, rfl, hrec, hst, hpe, hJi⟩ := hI
          obtain ⟨hlen, hneed⟩ := hJ i Hf hJi
          refine ⟨hneed _, by simp [hlen], r, dense N A, by rw [List.getElem?_append_right (by omega), hlen]; simp, by rw [hrec.1], fun x E hx => ?_⟩
          obtain ⟨st, pe, fn', tm, pa, as', bo, de⟩ := r
          obtain ⟨e1, e2, e3, e4⟩ := hrec
          simp only at e1 e2 e3 e4 hst hpe
          subst e1 e2 e3 e4 hst hpe
          have at2 : ∀ (Ha : List Blk) (B : Blk) (M : List Blk), Ha.length = H.length → (Ha ++ ([.dfr, B] ++ M))[H.length + 1]? = some B := fun Ha B M hl => by
            rw [List.getElem?_append_right (by omega), hl]; simp
          have set2 : ∀ (Ha : List Blk) (B B' : Blk) (M : List Blk), Ha.length = H.length → (Ha ++ ([.dfr, B] ++ M)).set (H.length + 1) B' = Ha ++ ([.dfr, B'] ++ M) := fun Ha B B' M hl => by
            rw [List.set_append_right _ _ (by omega), hl]; simp
          refine around_of_awp (cs := dense N A) rfl (by rw [List.append_assoc]; exact at2 Hf _ E hlen) (fun t ht => by
            rw [Array.all_eq_true'] at hps
            have := hps t (by simpa using ht)
            rw [hN]; simpa using this) fun hbd ro => ?_
          rw [List.append_assoc] at hbd ⊢
          have hlast := hbd (.loop { state := .ready, pending := none, fn := fn', tmps := a.tmps, params := pa, assign := as', body := bo, defers := de } (dense N A)) (by simp)
          have hr := hround i x Hf ([.dfr, .loop { state := .ready, pending := none, fn := fn', tmps := a.tmps, params := pa, assign := as', body := bo, defers := de } (dense N A)] ++ E)
            ([.dfr, .loop (busy { state := .ready, pending := none, fn := fn', tmps := a.tmps, params := pa, assign := as', body := bo, defers := de }) (dense N A)] ++ E) ro hx hJi (by simp) (by simp) hbd (fun B hB => by
              simp only [List.cons_append, List.nil_append, List.mem_cons] at hB
              rcases hB with rfl | rfl | hB
              · rfl
              · exact hlast
              · exact hbd B (by simp [hB]))
          rw [← hN] at hr ⊢
          rw [show (Loop.tmps { state := .ready, pending := none, fn := fn', tmps := a.tmps, params := pa, assign := as', body := bo, defers := de }).size = a.tmps.size from rfl]
          refine hr.mono fun e A1 H1 D1 hq => ?_
          cases e with
          | normal =>
            obtain ⟨rfl, Ha, M, hHa, rfl, hbody⟩ := hq
            refine ⟨rfl, by rw [List.append_assoc, List.append_assoc]; exact at2 Ha _ _ hHa, ?_⟩
            rw [List.append_assoc, List.append_assoc, set2 Ha _ _ _ hHa, ← List.append_assoc [Blk.dfr, _], ← List.append_assoc]
            refine hbody.mono fun e A2 H2 D2 hq2 => ?_
            obtain ⟨Hb, M', hHb, rfl, hHbd, hm⟩ := hq2
            rw [List.append_assoc, List.append_assoc]
            have fin : ∀ jump, (if jump.isNone = true then J (i + 1) Hb else ∃ c, jump = some c ∧ X c Hb) → jumpOf e = some jump → ∃ jump m, jumpOf e = some jump ∧
                (Hb ++ ([Blk.dfr, Blk.loop (busy { state := .ready, pending := none, fn := fn', tmps := a.tmps, params := pa, assign := as', body := bo, defers := de }) (dense a.tmps.size A)] ++ (E ++ M')))[H.length + 1]? = some (.loop (busy { state := .ready, pending := none, fn := fn', tmps := a.tmps, params := pa, assign := as', body := bo, defers := de }) (dense a.tmps.size A)) ∧
                (Hf ++ ([Blk.dfr, Blk.loop { state := .ready, pending := none, fn := fn', tmps := a.tmps, params := pa, assign := as', body := bo, defers := de } (dense a.tmps.size A)] ++ E)).length ≤ m ∧ m ≤ (Hb ++ ([Blk.dfr, Blk.loop (busy { state := .ready, pending := none, fn := fn', tmps := a.tmps, params := pa, assign := as', body := bo, defers := de }) (dense a.tmps.size A)] ++ (E ++ M'))).length ∧
                (∀ B ∈ ((Hb ++ ([Blk.dfr, Blk.loop (busy { state := .ready, pending := none, fn := fn', tmps := a.tmps, params := pa, assign := as', body := bo, defers := de }) (dense a.tmps.size A)] ++ (E ++ M'))).set (H.length + 1) (.loop (ended { state := .ready, pending := none, fn := fn', tmps := a.tmps, params := pa, assign := as', body := bo, defers := de } jump) (dense a.tmps.size A))).take m, B.bd m = true) ∧
                ∃ Hb', ((Hb ++ ([Blk.dfr, Blk.loop (busy { state := .ready, pending := none, fn := fn', tmps := a.tmps, params := pa, assign := as', body := bo, defers := de }) (dense a.tmps.size A)] ++ (E ++ M'))).set (H.length + 1) (.loop (ended { state := .ready, pending := none, fn := fn', tmps := a.tmps, params := pa, assign := as', body := bo, defers := de } jump) (dense a.tmps.size A))).take m = Hb' ++ E ∧
                  if jump.isNone = true then (∃ Hf r, Hb' = Hf ++ [.dfr, .loop r (dense a.tmps.size A)] ∧ Rec r ∧ r.state = .ready ∧ r.pending = none ∧ J (i + 1) Hf)
                  else (Hb'.length = H.length + 2 ∧ ∃ Hf r c, Hb' = Hf ++ [.dfr, .loop r (dense a.tmps.size A)] ∧ Rec r ∧ r.state = .done ∧ r.pending = some c ∧ X c Hf) := fun jump hj hje => by
              have hcut : ∀ B : Blk, (Hb ++ ([Blk.dfr, B] ++ (E ++ M'))).take (H.length + 2 + E.length) = Hb ++ [Blk.dfr, B] ++ E := fun B => by
                rw [show Hb ++ ([Blk.dfr, B] ++ (E ++ M')) = (Hb ++ [Blk.dfr, B] ++ E) ++ M' by simp]
                exact List.take_left' (by simp [hHb]; omega)
              have hn : (Hf ++ ([Blk.dfr, Blk.loop { state := .ready, pending := none, fn := fn', tmps := a.tmps, params := pa, assign := as', body := bo, defers := de } (dense a.tmps.size A)] ++ E)).length = H.length + 2 + E.length := by simp [hlen]; omega
              refine ⟨jump, H.length + 2 + E.length, hje, at2 Hb _ _ hHb, by rw [hn]; exact Nat.le_refl _, by simp [hHb]; omega, ?_, Hb ++ [.dfr, .loop (ended { state := .ready, pending := none, fn := fn', tmps := a.tmps, params := pa, assign := as', body := bo, defers := de } jump) (dense a.tmps.size A)], ?_, ?_⟩
              · rw [set2 Hb _ _ _ hHb, hcut]
                intro B hB
                rw [List.mem_append, List.mem_append] at hB
                rw [← hN] at hbd
                rw [hn] at hbd
                rcases hB with (hB | hB) | hB
                · have := hHbd B hB
                  rwa [show H.length + 2 + E.length = H.length + ([Blk.dfr, Blk.loop (busy { state := .ready, pending := none, fn := fn', tmps := a.tmps, params := pa, assign := as', body := bo, defers := de }) (dense a.tmps.size A)] ++ E).length by simp; omega]
                · simp only [List.mem_cons, List.not_mem_nil, or_false] at hB
                  rcases hB with rfl | rfl
                  · rfl
                  · exact hbd (.loop { state := .ready, pending := none, fn := fn', tmps := a.tmps, params := pa, assign := as', body := bo, defers := de } (dense a.tmps.size A)) (by simp)
                · exact hbd B (by simp [hB])
              · rw [set2 Hb _ _ _ hHb, hcut]
              · cases jump with
                | none => exact ⟨Hb, _, rfl, ⟨rfl, rfl, rfl, rfl⟩, rfl, rfl, hj⟩
                | some c => obtain ⟨c', hc, hX⟩ := hj; cases hc; exact ⟨by simp [hHb], Hb, _, c, rfl, ⟨rfl, rfl, rfl, rfl⟩, rfl, rfl, hX⟩
            cases e with
            | normal => exact fin none hm rfl
            | ret => exact fin (some .ret) ⟨_, rfl, hm⟩ rfl
            | exit id => exact fin (some (.exit id)) ⟨_, rfl, hm⟩ rfl
            | goto t => exact hm.elim
            | panic c => exact hm.elim
            | outgrown => exact hm.elim
          | ret => exact hq
          | exit id => exact hq
          | goto t => exact hq
          | panic c => exact hq
          | outgrown => exact hq) (H ++ [.dfr, .loop rc (dense N A)]) ⟨H, rc, rfl, ⟨rfl, rfl, rfl, rfl⟩, rfl, rfl, h0⟩
      have hargs : Reps G2 (H ++ [Blk.dfr, Blk.loop rc (dense N A)]).length (.yld (H.length + 1) :: caps) (#[Value.func (.yield (w.heap.size + 1)) #[] #[]] ++ cs').toList := by
        rw [Array.toList_append]
        refine Reps.cons ?_ ⟨by simpa using g2, fun j c v hc hv => (g4 j c v hc (by simpa using hv)).mono _ hev (by simp)⟩
        have := Rep.yld (G := G2) (H ++ [Blk.dfr, Blk.loop rc (dense N A)]).length (H.length + 1) (by simp) hr2
        rw [hblk2] at this
        exact this
      refine CallsIn.mono (F := Fr none) (hcall w0 G2 _ _ p2.1 hargs) fun e w' hpost => ?_
      obtain ⟨v, p, H', G', rfl, q1, q2, q3, q4, q5⟩ := hpost
      have hev' : Evol G H.length G' := hev.trans q3 (by simp)
      have keep : ∀ b, b < H.length + 2 → (G2.info b).isRow = false → (G'.info b).blk = (G2.info b).blk ∧ (G'.info b).isRow = false := fun b hb hr => by
        rcases q3.info b (by simpa using hb) with e | ⟨r, _, _⟩
        · rw [e]; exact ⟨rfl, hr⟩
        · rw [hr] at r; cases r
      obtain ⟨kb1, kr1⟩ := keep H.length (by omega) hr1
      obtain ⟨kb2, kr2⟩ := keep (H.length + 1) (by omega) hr2
      rw [hblk1] at kb1
      rw [hblk2] at kb2
      -- the record is ended
      have ends : ∀ (Hf : List Blk) (r : Loop), H' = Hf ++ [.dfr, .loop r (dense N A)] → Hf.length = H.length → r.state ≠ .busy → ∃ w4, (Instr.endLoop (w.heap.size + 1)).run P w' = .ok r.pending w4 ∧
          Sim Γ w0 G' (Hf ++ [.dfr, .loop { r with state := .exhausted } (dense N A)]) w4 := fun Hf r hH hlen hb => by
        have hl : H'[H.length + 1]? = some (.loop r (dense N A)) := by
          rw [hH, List.getElem?_append_right (by omega), hlen]; simp
        obtain ⟨_, hw, _⟩ := q1.blk _ _ hl
        rw [kb2] at hw
        refine ⟨_, run_endLoop hw hb, ?_⟩
        have := q1.setLoop (rec' := { r with state := .exhausted }) hl rfl
        rw [kb2, hH, List.set_append_right _ _ (by omega), hlen] at this
        simpa using this
      have hD : DSim G' (H.length + 2) (H.length :: D) ({ target := .collected w.heap.size, args := #[] } :: a.defers) := by
        have hd' := hd.mono (m := H.length + 2) hev' (by omega)
        refine ⟨?_, fun b hb => ?_⟩
        · rw [List.map_cons, kb1, hd'.1]
        · rcases List.mem_cons.1 hb with rfl | hb
          · exact ⟨by omega, kr1⟩
          · exact hd'.2 b hb
      rcases q5 with ⟨Hf, r, hH, hrec, hst, hpe, hJn⟩ | ⟨hlen2, Hf, r, c, hH, hrec, hst, hpe, hX⟩
      · have hlen := (hJ _ Hf hJn).1
        obtain ⟨w4, k1, k2⟩ := ends Hf r hH hlen (by rw [hst]; simp)
        refine ⟨r.pending, w4, k1, ?_⟩
        rw [hpe]
        have hln : (Hf ++ [Blk.dfr, Blk.loop { r with state := .exhausted } (dense N A)]).length = H.length + 2 := by simp [hlen]
        exact ⟨G', A, _, H.length :: D, k2, by rw [hln]; exact ha.mono hev' (by omega), by rw [hln]; exact hD, hev', by omega, hdone Hf _ hJn⟩
      · have hlen : Hf.length = H.length := by rw [hH] at hlen2; simpa using hlen2
        obtain ⟨w4, k1, k2⟩ := ends Hf r hH hlen (by rw [hst]; simp)
        refine ⟨r.pending, w4, k1, ?_⟩
        rw [hpe]
        have hln : (Hf ++ [Blk.dfr, Blk.loop { r with state := .exhausted } (dense N A)]).length = H.length + 2 := by simp [hlen]
        have := hstop c Hf (.loop { r with state := .exhausted } (dense N A)) hX hlen w0 G' w4 { a with defers := { target := .collected w.heap.size, args := #[] } :: a.defers } k2 (by rw [hln]; exact ha.mono hev' (by omega)) (by rw [hln]; exact hD)
        exact wpIn_mono this fun _ _ _ hl => hl.after hev' (by omega)

end
end Go.Proofs.YtinedfjknhahmaaDoor.Fw
