/- The framework, twenty-first part: less is known of a value; calls with arguments of which less is asked. -/
import Derived.Test.YtinedfjknhahmaaDoorFwT
namespace Go.Proofs.YtinedfjknhahmaaDoor.Fw
set_option linter.unusedVariables false
set_option linter.unusedSimpArgs false
open Go.RowKit

mutual
def PV.le : PV → PV → Prop
  | .vec es f, .vec es' f' => (f' = true → f = true) ∧ PV.leLL es es'
  | .agg cs, .agg cs' => PV.leL cs cs'
  | .tup cs, .tup cs' => PV.leL cs cs'
  | .iface t p, .iface t' p' => t = t' ∧ PV.le p p'
  | .cptr cs, .cptr cs' => PV.leL cs cs'
  | _, .any => True
  | p, q => p = q
def PV.leL : List PV → List PV → Prop
  | [], [] => True
  | p :: ps, q :: qs => PV.le p q ∧ PV.leL ps qs
  | _, _ => False
def PV.leLL : List (List PV) → List (List PV) → Prop
  | [], [] => True
  | p :: ps, q :: qs => PV.leL p q ∧ PV.leLL ps qs
  | _, _ => False
end

mutual
theorem PV.le_refl : ∀ p : PV, PV.le p p
  | .vec es f => ⟨fun h => h, PV.leLL_refl es⟩
  | .agg cs => PV.leL_refl cs
  | .tup cs => PV.leL_refl cs
  | .iface t p => ⟨rfl, PV.le_refl p⟩
  | .cptr cs => PV.leL_refl cs
  | .any => trivial
  | .bool _ | .int _ _ | .str _ | .nilp | .nilm | .nilf | .nili | .ptr _ _ | .eptr _ _ _ | .row _ _ _ _ | .map _ | .yld _ | .func _ _ _ => rfl
theorem PV.leL_refl : ∀ ps : List PV, PV.leL ps ps
  | [] => trivial
  | p :: ps => ⟨PV.le_refl p, PV.leL_refl ps⟩
theorem PV.leLL_refl : ∀ ps : List (List PV), PV.leLL ps ps
  | [] => trivial
  | p :: ps => ⟨PV.leL_refl p, PV.leLL_refl ps⟩
end

theorem PV.leL_len : ∀ {ps qs : List PV}, PV.leL ps qs → ps.length = qs.length
  | [], [], _ => rfl
  | _ :: _, _ :: _, h => by simp [PV.leL_len h.2]
  | [], _ :: _, h => h.elim
  | _ :: _, [], h => h.elim

theorem PV.leL_at : ∀ {ps qs : List PV} {i : Nat} {q : PV}, PV.leL ps qs → qs[i]? = some q → ∃ p, ps[i]? = some p ∧ PV.le p q
  | p :: _, _ :: _, 0, _, h, hq => by cases hq; exact ⟨p, rfl, h.1⟩
  | _ :: ps, _ :: qs, i + 1, q, h, hq => by
    obtain ⟨p, h1, h2⟩ := PV.leL_at (ps := ps) (qs := qs) (i := i) h.2 (by simpa using hq)
    exact ⟨p, by simpa using h1, h2⟩
  | [], [], _, _, _, hq => by simp at hq
  | [], _ :: _, _, _, h, _ => h.elim
  | _ :: _, [], _, _, h, _ => h.elim

theorem PV.leLL_len : ∀ {ps qs : List (List PV)}, PV.leLL ps qs → ps.length = qs.length
  | [], [], _ => rfl
  | _ :: _, _ :: _, h => by simp [PV.leLL_len h.2]
  | [], _ :: _, h => h.elim
  | _ :: _, [], h => h.elim

theorem PV.leLL_at : ∀ {ps qs : List (List PV)} {i : Nat} {q : List PV}, PV.leLL ps qs → qs[i]? = some q → ∃ p, ps[i]? = some p ∧ PV.leL p q
  | p :: _, _ :: _, 0, _, h, hq => by cases hq; exact ⟨p, rfl, h.1⟩
  | _ :: ps, _ :: qs, i + 1, q, h, hq => by
    obtain ⟨p, h1, h2⟩ := PV.leLL_at (ps := ps) (qs := qs) (i := i) h.2 (by simpa using hq)
    exact ⟨p, by simpa using h1, h2⟩
  | [], [], _, _, _, hq => by simp at hq
  | [], _ :: _, _, _, h, _ => h.elim
  | _ :: _, [], _, _, h, _ => h.elim

theorem PV.le_any (p : PV) : PV.le p .any := by cases p <;> trivial

/-- A value of which more is known is one of which less is known. -/
theorem Rep.le {G : Ghost} {n : Nat} {p : PV} {v : Value} (h : Rep G n p v) : ∀ {q : PV}, PV.le p q → Rep G n q v := by
  induction h with
  | vec0 n f a =>
    intro q hq
    cases q with
    | vec es' f' =>
      have : es' = [] := by have := PV.leLL_len hq.2; cases es' <;> simp_all
      subst this; exact .vec0 _ _ _
    | any => exact .any _ _
    | _ => cases hq
  | vec n es f b o sz cap vs hn hc hf hs h1 h2 h3 ih =>
    intro q hq
    cases q with
    | vec es' f' =>
      have hl := PV.leLL_len hq.2
      have key : ∀ (i j : Nat) e c, es'[i]? = some e → e[j]? = some c → ∃ e0 c0, es[i]? = some e0 ∧ e0[j]? = some c0 ∧ PV.le c0 c := fun i j e c hi hj => by
        obtain ⟨e0, k1, k2⟩ := PV.leLL_at hq.2 hi
        obtain ⟨c0, k3, k4⟩ := PV.leL_at k2 hj
        exact ⟨e0, c0, k1, k3, k4⟩
      rw [hl]
      refine .vec _ es' f' b o sz cap vs (by omega) (by omega) (fun h => by rw [← hl]; exact hf (hq.1 h)) (fun e he => ?_) (fun i j e c hi hj => ?_) (fun i j e c hi hj => ?_) (fun i j e c hi hj => ?_)
      · obtain ⟨i, hi⟩ := List.mem_iff_getElem?.1 he
        obtain ⟨e0, k1, k2⟩ := PV.leLL_at hq.2 hi
        rw [← PV.leL_len k2]; exact hs e0 (List.mem_of_getElem? k1)
      · obtain ⟨e0, c0, k1, k2, k3⟩ := key i j e c hi hj; exact h1 i j e0 c0 k1 k2
      · obtain ⟨e0, c0, k1, k2, k3⟩ := key i j e c hi hj; exact ih i j e0 c0 k1 k2 k3
      · obtain ⟨e0, c0, k1, k2, k3⟩ := key i j e c hi hj; exact h3 i j e0 c0 k1 k2
    | any => exact .any _ _
    | _ => cases hq
  | cptr n cs b o vs h1 h2 h3 ih =>
    intro q hq
    cases q with
    | cptr cs' =>
      refine .cptr _ cs' b o vs (fun i c hc => ?_) (fun i c hc => ?_) (fun i c hc => ?_)
      · obtain ⟨c0, k1, k2⟩ := PV.leL_at hq hc; exact h1 i c0 k1
      · obtain ⟨c0, k1, k2⟩ := PV.leL_at hq hc; exact ih i c0 k1 k2
      · obtain ⟨c0, k1, k2⟩ := PV.leL_at hq hc; exact h3 i c0 k1
    | any => exact .any _ _
    | _ => cases hq
  | agg n cs vs h1 h2 h3 ih =>
    intro q hq
    cases q with
    | agg cs' =>
      refine .agg _ cs' vs ((PV.leL_len hq).symm.trans h1) (fun i c v hc hv => ?_) h3
      obtain ⟨c0, k1, k2⟩ := PV.leL_at hq hc; exact ih i c0 v k1 hv k2
    | any => exact .any _ _
    | _ => cases hq
  | tup n cs vs h1 h2 ih =>
    intro q hq
    cases q with
    | tup cs' =>
      refine .tup _ cs' vs ((PV.leL_len hq).symm.trans h1) (fun i c v hc hv => ?_)
      obtain ⟨c0, k1, k2⟩ := PV.leL_at hq hc; exact ih i c0 v k1 hv k2
    | any => exact .any _ _
    | _ => cases hq
  | iface n t p v h ih =>
    intro q hq
    cases q with
    | iface t' p' => obtain ⟨rfl, hq⟩ := hq; exact .iface _ _ _ _ (ih hq)
    | any => exact .any _ _
    | _ => cases hq
  | any n v =>
    intro q hq
    cases q with
    | any => exact .any _ _
    | _ => cases hq
  | bool n b => intro q hq; cases q <;> first | exact .any _ _ | (cases hq; done) | (cases hq; exact .bool _ _)
  | int n k i => intro q hq; cases q <;> first | exact .any _ _ | (cases hq; done) | (cases hq; exact .int _ _ _)
  | str n s hn => intro q hq; cases q <;> first | exact .any _ _ | (cases hq; done) | (cases hq; exact .str _ _ hn)
  | nilp n => intro q hq; cases q <;> first | exact .any _ _ | (cases hq; done) | (cases hq; exact .nilp _)
  | nilm n => intro q hq; cases q <;> first | exact .any _ _ | (cases hq; done) | (cases hq; exact .nilm _)
  | nilf n => intro q hq; cases q <;> first | exact .any _ _ | (cases hq; done) | (cases hq; exact .nilf _)
  | nili n => intro q hq; cases q <;> first | exact .any _ _ | (cases hq; done) | (cases hq; exact .nili _)
  | ptr n b o hb hr => intro q hq; cases q <;> first | exact .any _ _ | (cases hq; done) | (cases hq; exact .ptr _ _ _ hb hr)
  | eptr n b o len a hb hr hl ha => intro q hq; cases q <;> first | exact .any _ _ | (cases hq; done) | (cases hq; exact .eptr _ _ _ _ _ hb hr hl ha)
  | row n b o k sz a cap hn hb hr hl ha => intro q hq; cases q <;> first | exact .any _ _ | (cases hq; done) | (cases hq; exact .row _ _ _ _ _ _ _ hn hb hr hl ha)
  | map n b hb hr => intro q hq; cases q <;> first | exact .any _ _ | (cases hq; done) | (cases hq; exact .map _ _ hb hr)
  | yld n b hb hr => intro q hq; cases q <;> first | exact .any _ _ | (cases hq; done) | (cases hq; exact .yld _ _ hb hr)
  | func n fn fs cs fs' cs' h1 h2 h3 h4 => intro q hq; cases q <;> first | exact .any _ _ | (cases hq; done) | (cases hq; exact .func _ _ _ _ _ _ h1 h2 h3 h4)

theorem Reps.le {G : Ghost} {n : Nat} {ps qs : List PV} {vs : List Value} (h : Reps G n ps vs) (hq : PV.leL ps qs) : Reps G n qs vs :=
  ⟨(PV.leL_len hq).symm.trans h.1, fun i q v hqi hv => let ⟨p, k1, k2⟩ := PV.leL_at hq hqi; (h.2 i p v k1 hv).le k2⟩

theorem ACalls.args {P : Program} {Γ : Nat → PV} {f : FuncId} {args args' : List PV} {H : List Blk} {R : PV → List Blk → Prop} (h : ACalls P Γ f args' H R) (hle : PV.leL args args') : ACalls P Γ f args H R :=
  fun w0 G w vs hs ha => h w0 G w vs hs (ha.le hle)

theorem Gives.args {P : Program} {Γ : Nat → PV} {f : FuncId} {args args' : List PV} {p : PV} (h : Gives P Γ f args' p) (hle : PV.leL args args') : Gives P Γ f args p := fun H => (h H).args hle

/-- The result is known to be less. -/
theorem Gives.res {P : Program} {Γ : Nat → PV} {f : FuncId} {args : List PV} {p q : PV} (h : Gives P Γ f args p) (hle : PV.le p q) : Gives P Γ f args q := fun H w0 G w vs hs ha =>
  (h H w0 G w vs hs ha).mono fun _ _ ⟨v, _, H', G', h1, h2, h3, h4, h5, h6, h7⟩ => ⟨v, q, H', G', h1, h2, by rw [h6] at h3; exact h3.le hle, h4, h5, rfl, h7⟩

section
variable {P : Program} {Γ : Nat → PV} {ops : Array Oper} {cls : List Nat} {n0 : Nat} {K : List (Nat × PV) → List Blk → Prop}

theorem aops_fnLe {o : Oper} {Q : List (Nat × PV) → List Blk → Prop} {rest : List Oper} {A : List (Nat × PV)} {H : List Blk} {x : Operand} {args : Array Operand} {ts : Array TypeId} {f : FuncId} {fs cs as : List PV} {p : PV}
    (ho : o.op = .call { callee := .value x, args := args, argTypes := ts }) (hg : o.guard = none) (hx : ev Γ A x = .func (.func f) fs cs) (he : Enters P f)
    (h : Gives P Γ f as p) (hle : PV.leL (fs ++ args.toList.map (ev Γ A) ++ cs) as) (hk : AOps P Γ ops Q rest (aput A o.dst p) H) : AOps P Γ ops Q (o :: rest) A H :=
  aops_fn ho hg hx he (h.args hle) hk

theorem dops_fnLe {i : Nat} {o : Oper} {rest : List (Nat × Oper)} {A : List (Nat × PV)} {H : List Blk} {x : Operand} {args : Array Operand} {ts : Array TypeId} {f : FuncId} {fs cs as : List PV} {p : PV}
    (ho : o.op = .call { callee := .value x, args := args, argTypes := ts }) (hw : wantA ops A o = some true) (hc : cls.getD i 0 = 0) (hx : ev Γ A x = .func (.func f) fs cs) (he : Enters P f)
    (h : Gives P Γ f as p) (hle : PV.leL (fs ++ args.toList.map (ev Γ A) ++ cs) as) (hk : DOps P Γ ops cls n0 K rest (aput A o.dst p) H) : DOps P Γ ops cls n0 K ((i, o) :: rest) A H :=
  dops_fn ho hw hc hx he (h.args hle) hk

/-- A call behind a guard that holds. -/
theorem aops_fnIf {o : Oper} {Q : List (Nat × PV) → List Blk → Prop} {rest : List Oper} {A : List (Nat × PV)} {H : List Blk} {x : Operand} {args : Array Operand} {ts : Array TypeId} {f : FuncId} {fs cs : List PV} {p : PV} {j d : Nat} {b : Bool}
    (ho : o.op = .call { callee := .value x, args := args, argTypes := ts }) (hg : o.guard = some (j, b)) (hd : (ops[j]?).bind (·.dst) = some d) (hb : alook A d = .bool b) (hx : ev Γ A x = .func (.func f) fs cs) (he : Enters P f)
    (h : Gives P Γ f (fs ++ args.toList.map (ev Γ A) ++ cs) p) (hk : AOps P Γ ops Q rest (aput A o.dst p) H) : AOps P Γ ops Q (o :: rest) A H :=
  aops_if hg hd hb (os_fn ho hx he h hk)

theorem call_ops {o : Oper} {b : Builtin} {args : Array Operand} {ts : Array TypeId} (ho : o.op = .call { callee := .builtin b, args := args, argTypes := ts }) {y : Operand} (hy : y ∈ args) : y ∈ o.op.operands := by
  rw [ho]; simpa [Op.operands, Call.operands] using hy

/-- Elements behind one's own row, in a drawn region. -/
theorem dops_appendR {i : Nat} {o : Oper} {rest : List (Nat × Oper)} {A : List (Nat × PV)} {H : List Blk} {x y : Operand} {t tx e : TypeId} {d : TypeDesc} {ti : TI} {b q k : Nat} {cs xs : List PV} {n : Nat} (ho : o.op = .call { callee := .builtin .append, args := #[x, y], argTypes := #[t, tx] })
    (hw : wantA ops A o = some true) (hc : cls.getD i 0 = 2) (ht : P.underlying t = some (.slice e)) (he : tiOf P e = some ti) (htx : P.underlying tx = some d) (hd : (∃ e, d = .slice e) ∨ d = .string) (hx : ev Γ A x = .row b q k ti.size) (hbk : H[b]? = some (.row ti.size cs)) (hl : cs.length = q + k * ti.size)
    (hy : srcOf H ti.size (ev Γ A y) = some xs) (hyv : ∀ es f, ev Γ A y = .vec es f → ∀ e ∈ es, e.length = ti.size) (hn : alen (ev Γ A y) = some n) (hbd : (k + n) * ti.bytes ≤ 140737488355328) (hbd' : k + n ≤ 9223372036854775807)
    (hk : DOps P Γ ops cls n0 K rest (aput A o.dst (.row b q (k + n) ti.size)) (H.set b (.row ti.size (cs ++ xs)))) : DOps P Γ ops cls n0 K ((i, o) :: rest) A H :=
  dops_turns _ hw hc (fun A' hev => by
    have ex := hev x (call_ops ho (by simp))
    have ey := hev y (call_ops ho (by simp))
    exact os_appendR ho ht he htx hd (ex.trans hx) hbk hl (by rw [ey]; exact hy) (by rw [ey]; exact hyv) (by rw [ey]; exact hn) hbd hbd' ⟨rfl, rfl⟩) hk

/-- Elements behind an empty slice, in a drawn region: a row of one's own. -/
theorem dops_appendNew {i : Nat} {o : Oper} {rest : List (Nat × Oper)} {A : List (Nat × PV)} {H : List Blk} {x y : Operand} {t tx e : TypeId} {d : TypeDesc} {ti : TI} {xs : List PV} {n : Nat} (ho : o.op = .call { callee := .builtin .append, args := #[x, y], argTypes := #[t, tx] })
    (hw : wantA ops A o = some true) (hc : cls.getD i 0 = 2 ∨ cls.getD i 0 = 3) (hn0 : n0 ≤ H.length) (ht : P.underlying t = some (.slice e)) (he : tiOf P e = some ti) (htx : P.underlying tx = some d) (hd : (∃ e, d = .slice e) ∨ d = .string) (hsz : 0 < ti.size) (hx : ev Γ A x = .vec [] true)
    (hy : srcOf H ti.size (ev Γ A y) = some xs) (hyv : ∀ es f, ev Γ A y = .vec es f → ∀ e ∈ es, e.length = ti.size) (hn : alen (ev Γ A y) = some n) (hbd : n * ti.bytes ≤ 140737488355328) (hbd' : n ≤ 9223372036854775807)
    (hk : DOps P Γ ops cls n0 K rest (aput A o.dst (.row H.length 0 n ti.size)) (H ++ [.row ti.size xs])) : DOps P Γ ops cls n0 K ((i, o) :: rest) A H := by
  have h : ∀ A', (∀ x ∈ o.op.operands, ev Γ A' x = ev Γ A x) → OStep P Γ o A' H (fun q H1 => q = .row H.length 0 n ti.size ∧ H1 = H ++ [.row ti.size xs]) := fun A' hev => by
    have ex := hev x (call_ops ho (by simp))
    have ey := hev y (call_ops ho (by simp))
    exact os_appendNew ho ht he htx hd hsz (ex.trans hx) (by rw [ey]; exact hy) (by rw [ey]; exact hyv) (by rw [ey]; exact hn) hbd hbd' ⟨rfl, rfl⟩
  rcases hc with hc | hc
  · exact dops_turns _ hw hc h hk
  · exact dops_makes _ hw hc (by rw [List.take_append_of_le_length hn0]) h hk

/-- Elements behind a slice without room, in a drawn region. -/
theorem dops_appendVV {i : Nat} {o : Oper} {rest : List (Nat × Oper)} {A : List (Nat × PV)} {H : List Blk} {x y : Operand} {t tx e e' : TypeId} {ti : TI} {es fs : List (List PV)} {f : Bool} (ho : o.op = .call { callee := .builtin .append, args := #[x, y], argTypes := #[t, tx] })
    (hw : wantA ops A o = some true) (hc : cls.getD i 0 = 0) (ht : P.underlying t = some (.slice e)) (he : tiOf P e = some ti) (htx : P.underlying tx = some (.slice e')) (hx : ev Γ A x = .vec es true) (hes : ∀ e ∈ es, e.length = ti.size)
    (hy : ev Γ A y = .vec fs f) (hfs : ∀ e ∈ fs, e.length = ti.size) (hb : (es.length + fs.length) * ti.bytes ≤ 140737488355328) (hb' : es.length + fs.length ≤ 9223372036854775807)
    (hk : DOps P Γ ops cls n0 K rest (aput A o.dst (.vec (es ++ fs) false)) H) : DOps P Γ ops cls n0 K ((i, o) :: rest) A H :=
  dops_one _ hw hc (fun H A' hev => by
    have ex := hev x (call_ops ho (by simp))
    have ey := hev y (call_ops ho (by simp))
    exact os_appendVV ho ht he htx (ex.trans hx) hes (ey.trans hy) hfs hb hb' ⟨rfl, rfl⟩) hk

/-- A slice, a text, a row is no longer than the greatest int. -/
theorem awp_vlen {N : Nat} {ro : Option Nat} {c : Code} {A : List (Nat × PV)} {H : List Blk} {D : List Nat} {Q : Post} (t : Nat) {es : List (List PV)} {f : Bool} (ht : alook A t = .vec es f) (h : es.length ≤ 9223372036854775807 → AWP P Γ N ro c A H D Q) : AWP P Γ N ro c A H D Q :=
  fun w0 G w a hs ha hd => h (by have := ha.2 t; rw [ht] at this; exact this.vec_len) w0 G w a hs ha hd
theorem awp_slen {N : Nat} {ro : Option Nat} {c : Code} {A : List (Nat × PV)} {H : List Blk} {D : List Nat} {Q : Post} (t : Nat) {s : List UInt8} (ht : alook A t = .str s) (h : s.length ≤ 9223372036854775807 → AWP P Γ N ro c A H D Q) : AWP P Γ N ro c A H D Q :=
  fun w0 G w a hs ha hd => h (by have := ha.2 t; rw [ht] at this; exact this.str_len) w0 G w a hs ha hd
theorem awp_rlen {N : Nat} {ro : Option Nat} {c : Code} {A : List (Nat × PV)} {H : List Blk} {D : List Nat} {Q : Post} (t : Nat) {b q k sz : Nat} (ht : alook A t = .row b q k sz) (h : k ≤ 9223372036854775807 → AWP P Γ N ro c A H D Q) : AWP P Γ N ro c A H D Q :=
  fun w0 G w a hs ha hd => h (by have := ha.2 t; rw [ht] at this; exact this.row_len) w0 G w a hs ha hd

/-- A slot of which less is known. -/
theorem told_le {A : List (Nat × PV)} {H : List Blk} (t : Nat) (q : PV) (h : PV.le (alook A t) q) : Told Γ A H ((t, q) :: A) H :=
  ⟨Nat.le_refl _, fun w0 G w N a hs ha => ⟨G, hs, ⟨ha.1, fun u => by
    simp only [alook]
    split
    · rename_i e; subst e; exact (ha.2 u).le h
    · exact ha.2 u⟩, Evol.refl _ _⟩⟩

/-- A cell of a box of which less is known. -/
theorem told_leBox {A : List (Nat × PV)} {H : List Blk} (b : Nat) {cs cs' : List PV} (hb : H[b]? = some (.box cs)) (h : PV.leL cs cs') : Told Γ A H A (H.set b (.box cs')) := by
  refine ⟨by simp, fun w0 G w N a hs ha => ⟨G, hs.relabel hb (PV.leL_len h).symm (fun j c c' hc hc' v hv => ?_), by simpa using ha, Evol.refl _ _⟩⟩
  obtain ⟨p, k1, k2⟩ := PV.leL_at h hc'
  rw [hc] at k1
  cases k1
  exact hv.le k2

theorem fn_of_awpLe {f : FuncId} {fn : Func} {c : Code} {args : List PV} {p q : PV} (hf : P.funcs[f]? = some fn) (hb : fn.body = some c) (hN : args.length ≤ fn.ntmps) (hp : p.plain = true) (hle : PV.le p q)
    (h : ∀ H, AWP P Γ fn.ntmps none c (initA 0 args) H [] (fun e A' H' D' => (e = .ret ∨ e = .normal) ∧ D'.Nodup ∧ (∀ b ∈ D', H'[b]? = some .dfr ∧ H.length ≤ b) ∧ ares P Γ A' H' fn.results.toList = some p ∧ ∃ L, H' = H ++ L)) : Gives P Γ f args q :=
  (fn_of_awp hf hb hN hp h).res hle

end
end Go.Proofs.YtinedfjknhahmaaDoor.Fw
