/- The framework, fifteenth part: what is known is told otherwise; blocks forgotten; rows begun, and ended. -/
import Derived.Test.YtinedfjknhahmaaDoorFwN
namespace Go.Proofs.YtinedfjknhahmaaDoor.Fw
set_option linter.unusedVariables false
set_option linter.unusedSimpArgs false
open Go.RowKit

/-- The same world, told otherwise. -/
def Told (Γ : Nat → PV) (A : List (Nat × PV)) (H : List Blk) (A' : List (Nat × PV)) (H' : List Blk) : Prop :=
  H.length ≤ H'.length ∧ ∀ (w0 : World) (G : Ghost) (w : World) (N : Nat) (a : Act), Sim Γ w0 G H w → ASim G H.length N A a → ∃ G', Sim Γ w0 G' H' w ∧ ASim G' H'.length N A' a ∧ Evol G H.length G'

section
variable {P : Program} {Γ : Nat → PV} {N : Nat} {ro : Option Nat} {c : Code} {o : Oper} {A A' : List (Nat × PV)} {H H' : List Blk} {D : List Nat} {Q : Post} {K : PV → List Blk → Prop}

theorem awp_told (ht : Told Γ A H A' H') (h : AWP P Γ N ro c A' H' D Q) : AWP P Γ N ro c A H D Q := by
  intro w0 G w a hs ha hd
  obtain ⟨G', h1, h2, h3⟩ := ht.2 w0 G w N a hs ha
  exact wpIn_mono (h w0 G' w a h1 h2 (hd.mono h3 ht.1)) fun _ _ _ hl => hl.after h3 ht.1

theorem OStep.told (ht : Told Γ A H A' H') (h : OStep P Γ o A' H' K) : OStep P Γ o A H K := by
  intro ro w0 G w N a next Q hs ha hn
  obtain ⟨G', h1, h2, h3⟩ := ht.2 w0 G w N a hs ha
  exact h ro w0 G' w N a next Q h1 h2 fun v w' G'' p H'' k1 k2 k3 k4 k5 => hn v w' G'' p H'' k1 k2 (h3.trans k3 ht.1) (Nat.le_trans ht.1 k4) k5

/-- A row is begun in a slot. -/
theorem told_adopt (t : Nat) (sz : Nat) (hsz : 0 < sz) (ht : alook A t = .vec [] true) : Told Γ A H ((t, .row H.length 0 0 sz) :: A) (H ++ [.row sz []]) := by
  refine ⟨by simp, fun w0 G w N a hs ha => ?_⟩
  have hv := ha.2 t
  rw [ht] at hv
  obtain ⟨G', h1, h2, h3⟩ := hs.adopt hsz hv
  refine ⟨G', h1, ⟨ha.1, fun u => ?_⟩, h2⟩
  simp only [alook]
  split
  · rename_i e; subst e; exact h3
  · exact (ha.2 u).mono _ h2 (by simp)

theorem BlkOk.relabel {G : Ghost} {n : Nat} {w : World} {i : Info} {cs cs' : List PV} (h : BlkOk G n w i (.box cs)) (hl : cs'.length = cs.length) (hr : ∀ (j : Nat) c c', cs[j]? = some c → cs'[j]? = some c' → ∀ v, Rep G n c v → Rep G n c' v) : BlkOk G n w i (.box cs') := by
  obtain ⟨h0, C, e, h1, h2, h3⟩ := h
  refine ⟨h0, C, e, h1, ⟨hl.trans h2.1, fun j c v hc hv => ?_⟩, h3⟩
  have hj : j < cs.length := by have := (List.getElem?_eq_some_iff.1 hc).1; omega
  exact hr j _ c (List.getElem?_eq_getElem hj) hc v (h2.2 j _ v (List.getElem?_eq_getElem hj) hv)

/-- What stands in a box is told otherwise. -/
theorem Sim.relabel {w0 w : World} {G : Ghost} {b : Nat} {cs cs' : List PV} (h : Sim Γ w0 G H w) (hb : H[b]? = some (.box cs)) (hl : cs'.length = cs.length)
    (hr : ∀ (j : Nat) c c', cs[j]? = some c → cs'[j]? = some c' → ∀ v, Rep G H.length c v → Rep G H.length c' v) : Sim Γ w0 G (H.set b (.box cs')) w := by
  have hbl := (List.getElem?_eq_some_iff.1 hb).1
  have key : ∀ (k : Nat) B, (H.set b (.box cs'))[k]? = some B → ∃ B', H[k]? = some B' ∧ (B.live (G.info k) = true → B'.live (G.info k) = true) := fun k B hB => by
    by_cases hk : k = b
    · subst hk
      rw [List.getElem?_set_self hbl] at hB
      cases hB
      exact ⟨_, hb, fun h => h⟩
    · rw [List.getElem?_set_ne (Ne.symm hk)] at hB
      exact ⟨B, hB, fun h => h⟩
  refine ⟨h.below, h.mem, fun k B hB => ?_, fun k B hB hlv => ?_, fun k k' B B' hB hB' h1 h2 he => ?_, h.glob, h.tab⟩
  · rw [List.length_set]
    by_cases hk : k = b
    · subst hk
      rw [List.getElem?_set_self hbl] at hB
      cases hB
      exact (h.blk k _ hb).relabel hl hr
    · rw [List.getElem?_set_ne (Ne.symm hk)] at hB
      exact h.blk k B hB
  · obtain ⟨B', h1, h2⟩ := key k B hB
    exact h.own k B' h1 (h2 hlv)
  · obtain ⟨E, h3, h4⟩ := key k B hB
    obtain ⟨E', h5, h6⟩ := key k' B' hB'
    exact h.inj k k' E E' h3 h5 (h4 h1) (h6 h2) he

/-- A row is begun in a cell of a box. -/
theorem told_adoptBox (b j sz : Nat) {cs : List PV} (hsz : 0 < sz) (hb : H[b]? = some (.box cs)) (hj : cs[j]? = some (.vec [] true)) :
    Told Γ A H A (H.set b (.box (cs.set j (.row H.length 0 0 sz))) ++ [.row sz []]) := by
  refine ⟨by simp, fun w0 G w N a hs ha => ?_⟩
  obtain ⟨h0, C, e, h1, h2, h3⟩ := hs.blk b _ hb
  have hjl := (List.getElem?_eq_some_iff.1 hj).1
  have hjC : j < C.toList.length := by rw [← h2.1]; exact hjl
  have hv := h2.2 j _ _ hj (List.getElem?_eq_getElem hjC)
  obtain ⟨G', k1, k2, k3⟩ := hs.adopt hsz hv
  have hbl := (List.getElem?_eq_some_iff.1 hb).1
  have hb' : (H ++ [Blk.row sz []])[b]? = some (.box cs) := by rw [List.getElem?_append_left hbl]; exact hb
  have hset : H.set b (.box (cs.set j (.row H.length 0 0 sz))) ++ [.row sz []] = (H ++ [Blk.row sz []]).set b (.box (cs.set j (.row H.length 0 0 sz))) := by rw [List.set_append_left _ _ hbl]
  obtain ⟨h0', C', e', h1', h2', h3'⟩ := k1.blk b _ hb'
  refine ⟨G', ?_, ⟨ha.1, fun t => (ha.2 t).mono _ k2 (by simp)⟩, k2⟩
  have hi : (G'.info b).blk = (G.info b).blk := by
    rcases k2.info b hbl with e | ⟨r, _, _⟩
    · rw [e]
    · rw [h0] at r; cases r
  rw [hset]
  have hlen : ((H ++ [Blk.row sz []]).set b (.box (cs.set j (.row H.length 0 0 sz)))).length = (H ++ [Blk.row sz []]).length := by simp
  refine ⟨k1.below, k1.mem, fun k B hB => ?_, fun k B hB hlv => ?_, fun k k' B B' hB hB' q1 q2 he => ?_, k1.glob, k1.tab⟩
  · rw [hlen]
    by_cases hk : k = b
    · subst hk
      rw [List.getElem?_set_self (by simp; omega)] at hB
      cases hB
      have hCC : C' = C := by rw [hi] at h1'; rw [h1] at h1'; cases h1'; rfl
      subst hCC
      refine ⟨h0', C', e', h1', ⟨by simpa using h2'.1, fun i c v hc hv' => ?_⟩, h3'⟩
      by_cases hij : i = j
      · subst hij
        rw [List.getElem?_set_self hjl] at hc
        cases hc
        have : v = C'.toList[i]'hjC := by rw [List.getElem?_eq_getElem hjC] at hv'; exact (Option.some.inj hv').symm
        rw [this]; exact k3
      · rw [List.getElem?_set_ne (Ne.symm hij)] at hc
        exact h2'.2 i c v hc hv'
    · rw [List.getElem?_set_ne (Ne.symm hk)] at hB
      exact k1.blk k B hB
  all_goals
    have key : ∀ (k : Nat) B, ((H ++ [Blk.row sz []]).set b (.box (cs.set j (.row H.length 0 0 sz))))[k]? = some B → ∃ B', (H ++ [Blk.row sz []])[k]? = some B' ∧ (B.live (G'.info k) = true → B'.live (G'.info k) = true) := fun k B hB => by
      by_cases hk : k = b
      · subst hk
        rw [List.getElem?_set_self (by simp; omega)] at hB
        cases hB
        exact ⟨_, hb', fun h => h⟩
      · rw [List.getElem?_set_ne (Ne.symm hk)] at hB
        exact ⟨B, hB, fun h => h⟩
  · obtain ⟨B', q1, q2⟩ := key k B hB
    exact k1.own k B' q1 (q2 hlv)
  · obtain ⟨E, q3, q4⟩ := key k B hB
    obtain ⟨E', q5, q6⟩ := key k' B' hB'
    exact k1.inj k k' E E' q3 q5 (q4 q1) (q6 q2) he

/-- A value of a row that is ended. -/
def frz (b sz : Nat) (C : List PV) (p : PV) : PV :=
  match p with
  | .row b' q k sz' => if b' = b ∧ sz' = sz ∧ C.length = q + k * sz then .vec (chunk sz k (C.drop q)) false else p
  | _ => p

def frzB (b sz : Nat) (C : List PV) (B : Blk) : Blk :=
  match B with
  | .box cs => .box (cs.map (frz b sz C))
  | _ => B

/-- A row is ended: nobody turns it any more. -/
theorem told_freezeR (b : Nat) {sz : Nat} {C : List PV} {H2 : List Blk} (hb : H[b]? = some (.row sz C)) (hp : PV.plainL C = true) (hl2 : H2.length = H.length)
    (hrel : ∀ (k : Nat) B, H2[k]? = some B → ∃ B', (H.set b .dead)[k]? = some B' ∧ (B = B' ∨ B = frzB b sz C B')) : Told Γ A H (A.map fun kp => (kp.1, frz b sz C kp.2)) H2 := by
  refine ⟨by omega, fun w0 G w N a hs ha => ?_⟩
  obtain ⟨G', h1, h2, h3⟩ := hs.freeze hb hp
  have conv : ∀ n p v, Rep G n p v → n ≤ H.length → Rep G' n (frz b sz C p) v := fun n p v hr hn => by
    have h0 := hr.mono n (h2.less hn) (Nat.le_refl _)
    unfold frz
    split
    · split
      · rename_i b' q k sz' hc
        obtain ⟨rfl, rfl, hl⟩ := hc
        exact h3 _ _ q k v hr hl
      · exact h0
    · exact h0
  have hlen : H2.length = H.length := hl2
  have back : ∀ (k : Nat) B, H2[k]? = some B → ∃ B', (H.set b .dead)[k]? = some B' ∧ (B = B' ∨ B = frzB b sz C B') ∧ (B.live (G'.info k) = B'.live (G'.info k)) := fun k B hB => by
    obtain ⟨B', hB', e⟩ := hrel k B hB
    refine ⟨B', hB', e, ?_⟩
    rcases e with rfl | rfl
    · rfl
    · cases B' <;> rfl
  refine ⟨G', ⟨h1.below, h1.mem, fun k B hB => ?_, fun k B hB hlv => ?_, fun k k' B B' hB hB' q1 q2 he => ?_, h1.glob, h1.tab⟩, ⟨ha.1, fun t => ?_⟩, h2⟩
  · obtain ⟨B', k1, ke, k3⟩ := back k B hB
    have k4 := h1.blk k B' k1
    rw [hlen]
    rw [List.length_set] at k4
    rcases ke with rfl | rfl
    · exact k4
    cases B' with
    | box cs =>
      obtain ⟨g0, D, e, g1, g2, g3⟩ := k4
      have hkb : k ≠ b := fun e => by
        subst e
        rw [List.getElem?_set_self (List.getElem?_eq_some_iff.1 hb).1] at k1; cases k1
      rw [List.getElem?_set_ne (Ne.symm hkb)] at k1
      obtain ⟨g0', D', e', g1', g2', g3'⟩ := hs.blk k _ k1
      have hi : (G'.info k).blk = (G.info k).blk := by
        rcases h2.info k (List.getElem?_eq_some_iff.1 k1).1 with e | ⟨r, _, _⟩
        · rw [e]
        · rw [g0'] at r; cases r
      have : D = D' := by rw [hi] at g1; rw [g1'] at g1; cases g1; rfl
      subst this
      refine ⟨g0, D, e, g1, ⟨by simpa using g2.1, fun j c v hc hv => ?_⟩, g3⟩
      rw [List.getElem?_map] at hc
      obtain ⟨c', hc', rfl⟩ := Option.map_eq_some_iff.1 hc
      exact conv _ _ _ (g2'.2 j c' v hc' hv) (Nat.le_refl _)
    | row _ _ => exact k4
    | map _ => exact k4
    | loop _ _ => exact k4
    | dfr => exact k4
    | dead => exact k4
  · obtain ⟨B', k1, _, k3⟩ := back k B hB
    exact h1.own k B' k1 (k3 ▸ hlv)
  · obtain ⟨E, k1, _, k3⟩ := back k B hB
    obtain ⟨E', k4, _, k6⟩ := back k' B' hB'
    exact h1.inj k k' E E' k1 k4 (k3 ▸ q1) (k6 ▸ q2) he
  · have : alook (A.map fun kp => (kp.1, frz b sz C kp.2)) t = frz b sz C (alook A t) := by
      clear ha
      induction A with
      | nil => rfl
      | cons kp A ih =>
        obtain ⟨k, p⟩ := kp
        simp only [List.map_cons, alook]
        split
        · rfl
        · exact ih
    rw [this, hlen]
    exact conv _ _ _ (ha.2 t) (Nat.le_refl _)

theorem told_freeze (b : Nat) {sz : Nat} {C : List PV} (hb : H[b]? = some (.row sz C)) (hp : PV.plainL C = true) : Told Γ A H (A.map fun kp => (kp.1, frz b sz C kp.2)) ((H.set b .dead).map (frzB b sz C)) :=
  told_freezeR b hb hp (by simp) fun k B hB => by
    rw [List.getElem?_map] at hB
    obtain ⟨B', hB', rfl⟩ := Option.map_eq_some_iff.1 hB
    exact ⟨B', hB', .inr rfl⟩

/-- A row of the later blocks is ended. -/
theorem told_freezeAt (H0 L : List Blk) (j : Nat) {sz : Nat} {C : List PV} (hb : L[j]? = some (.row sz C)) (hp : PV.plainL C = true) :
    Told Γ A (H0 ++ L) (A.map fun kp => (kp.1, frz (H0.length + j) sz C kp.2)) (H0 ++ (L.set j .dead).map (frzB (H0.length + j) sz C)) := by
  have hset : (H0 ++ L).set (H0.length + j) .dead = H0 ++ L.set j .dead := by rw [List.set_append_right _ _ (by omega)]; simp
  refine told_freezeR (H0.length + j) (by rw [List.getElem?_append_right (by omega)]; simpa using hb) hp (by simp) fun k B hB => ?_
  rw [hset]
  by_cases hk : k < H0.length
  · rw [List.getElem?_append_left hk] at hB ⊢
    exact ⟨B, hB, .inl rfl⟩
  · rw [List.getElem?_append_right (by omega)] at hB ⊢
    rw [List.getElem?_map] at hB
    obtain ⟨B', hB', rfl⟩ := Option.map_eq_some_iff.1 hB
    exact ⟨B', hB', .inr rfl⟩

/-- Elements behind an empty slice: a row of one's own. -/
theorem os_appendNew {x y : Operand} {t tx e : TypeId} {d : TypeDesc} {ti : TI} {xs : List PV} {n : Nat} (ho : o.op = .call { callee := .builtin .append, args := #[x, y], argTypes := #[t, tx] })
    (ht : P.underlying t = some (.slice e)) (he : tiOf P e = some ti) (htx : P.underlying tx = some d) (hd : (∃ e, d = .slice e) ∨ d = .string) (hsz : 0 < ti.size) (hx : ev Γ A x = .vec [] true)
    (hy : srcOf H ti.size (ev Γ A y) = some xs) (hyv : ∀ es f, ev Γ A y = .vec es f → ∀ e ∈ es, e.length = ti.size) (hn : alen (ev Γ A y) = some n) (hbd : n * ti.bytes ≤ 140737488355328) (hbd' : n ≤ 9223372036854775807)
    (hk : K (.row H.length 0 n ti.size) (H ++ [.row ti.size xs])) : OStep P Γ o A H K :=
  ostep_value (by simp [ho]) fun w0 G w N a hs ha => by
    have hv := ha.ev hs.glob x
    rw [hx] at hv
    obtain ⟨G1, h1, h2, h3⟩ := hs.adopt hsz hv
    have hsrc : ∀ p, srcOf (H ++ [Blk.row ti.size []]) ti.size p = srcOf H ti.size p := fun p => by cases p <;> rfl
    obtain ⟨v, w', G', p, H', k1, k2, k3, k4, k5, k6⟩ := append_row_sem (A := A) (H := H ++ [Blk.row ti.size []]) (K := K) (b := H.length) (q := 0) (k := 0) (cs := []) (xs := xs) (n := n) ho ht he htx hd (by simp) (by simp)
      (by rw [hsrc]; exact hy) hyv hn (by simpa using hbd) (by simpa using hbd') (by simpa using hk) h1 (ha.mono h2 (by simp)) h3
    exact ⟨v, w', G', p, H', k1, k2, k3, h2.trans k4 (by simp), by simp at k5; omega, k6⟩

/-- What a round leaves behind may be forgotten. -/
def Cut (n : Nat) (Q : Post) : Post := fun e A H D =>
  ∃ A' m, n ≤ m ∧ m ≤ H.length ∧ (∀ B ∈ H.take m, B.bd m = true) ∧ (∀ t, alook A' t = alook A t ∨ alook A' t = .any) ∧ (∀ t, (alook A' t).bd m = true) ∧ (∀ b ∈ D, b < m) ∧ Q e A' (H.take m) D

theorem awp_cut (h : AWP P Γ N ro c A H D (Cut H.length Q)) : AWP P Γ N ro c A H D Q := by
  intro w0 G w a hs ha hd
  refine wpIn_mono (h w0 G w a hs ha hd) fun e a' w' hl => ?_
  obtain ⟨G', A1, H1, D1, h1, h2, h3, h4, h5, A2, m, c1, c2, c3, c4, c5, c6, c7⟩ := hl
  have hlen : (H1.take m).length = m := by rw [List.length_take, Nat.min_eq_left c2]
  refine ⟨G', A2, H1.take m, D1, h1.take m c2 c3, ⟨(h2.less c4).1, fun t => ?_⟩, ⟨h3.1, fun b hb => ⟨by rw [hlen]; exact c6 b hb, (h3.2 b hb).2⟩⟩, h4, by rw [hlen]; exact c1, c7⟩
  rw [hlen]
  exact ((h2.less c4).2 t).cut m (c5 t)

end
end Go.Proofs.YtinedfjknhahmaaDoor.Fw
