/- What chapter 12 tells, plainly. -/
import Derived.Test.YteicbhkimepbaaaGreatDoorWE
import Derived.Test.YteicbhkimepbaaaGreatDoorWD
import Derived.Test.YteicbhkimepbaaaGreatDoorWC
namespace Go.Proofs.YteicbhkimepbaaaGreatDoor
set_option linter.unusedVariables false
set_option linter.unusedSimpArgs false
set_option maxRecDepth 100000
open Go.RowKit Fw
def accL (f : Int → Int → Int) (s : Int) (xs : List Int) : Int := xs.foldl (fun p x => if x < 0 then f p (-1 - x) else p) s
def ptN (n : Nat) (a : Int) : Int := if (n : Int) ≤ -1 - a then -1 else -1 - a
def boundV (n : Nat) (f : Int → Int → Int) (s : Int) (c : List Pr) (a : Int) : Int := if a < 0 then ptN n a else accL f s (abv c a)
def lowV (ns : List (List UInt8)) (us : List Nat) (c : List Pr) (a : Int) : Int := if knownB ns us c = true then boundV ns.length (joinV ns us) (botV ns us) (flp c) a else -1
def highV (ns : List (List UInt8)) (us : List Nat) (c : List Pr) (a : Int) : Int := if knownB ns us c = true then boundV ns.length (meetV ns us) (topV ns us) c a else -1
def rchB (c : List Pr) (a b : Int) : Bool := (abv c a).contains b
def entV (ns : List (List UInt8)) (us : List Nat) (c : List Pr) (a b : Int) : Bool :=
  knownB ns us c && knownB ns us [⟨a, b⟩] && (rchB c a b || leqB (min ns.length us.length) us (highV ns us c a) (lowV ns us c b))
def keepV (keep : List Int) : List Int := keep.filter fun v => !decide (v < 0)
def projO (ns : List (List UInt8)) (us : List Nat) (c : List Pr) (K : List Int) (v : Int) : List Pr :=
  (if lowV ns us c v = botV ns us then [] else [⟨-1 - lowV ns us c v, v⟩]) ++ ((if highV ns us c v = topV ns us then [] else [⟨v, -1 - highV ns us c v⟩]) ++
    ((abv c v).filter fun w => K.contains w && !leqB (min ns.length us.length) us (highV ns us c v) (lowV ns us c w)).map fun w => ⟨v, w⟩)
def projV (ns : List (List UInt8)) (us : List Nat) (c : List Pr) (keep : List Int) : List Pr :=
  if knownB ns us c = true then normL ((keepV keep).flatMap (projO ns us c (keepV keep))) else []
variable {ns : List (List UInt8)} {us : List Nat} {c d : List Pr} {a b v w : Int}
def ProjP (ns : List (List UInt8)) (us : List Nat) (c : List Pr) (K : List Int) (p : Pr) : Prop :=
  ∃ v ∈ K, 0 ≤ v ∧ ((lowV ns us c v ≠ botV ns us ∧ p = ⟨-1 - lowV ns us c v, v⟩) ∨ (highV ns us c v ≠ topV ns us ∧ p = ⟨v, -1 - highV ns us c v⟩) ∨
    ∃ w ∈ K, 0 ≤ w ∧ Rch c v w ∧ leqB (min ns.length us.length) us (highV ns us c v) (lowV ns us c w) = false ∧ p = ⟨v, w⟩)
def QW (ns : List (List UInt8)) (us : List Nat) (c : List Pr) (K : List Int) (x y : Int) : Prop :=
  (0 ≤ y → y ∈ K ∧ ((x < 0 → ∃ m : Nat, IsLub us.length (lq us) (lowP c y) m ∧ lq us (-1 - x).toNat m = true) ∧ (0 ≤ x → x ∈ K ∧ Rch c x y))) ∧
  (y < 0 → 0 ≤ x → x ∈ K ∧ ∃ m : Nat, IsLub us.length (tr (lq us)) (highP c x) m ∧ lq us m (-1 - y).toNat = true)
end Go.Proofs.YteicbhkimepbaaaGreatDoor
namespace Go.Proofs.YteicbhkimepbaaaGreatDoor
set_option linter.unusedVariables false
set_option linter.unusedSimpArgs false
set_option maxRecDepth 100000
open Go.RowKit Fw
section
variable {P : Program} {Γ : Nat → PV} {ops : Array Oper} {cls : List Nat} {n0 : View}
theorem dops_lent {i : Nat} {o : Oper} {K : List (Nat × PV) → List Blk → Prop} {rest : List (Nat × Oper)} {A : List (Nat × PV)} {H : List Blk} {x : Operand} {args : Array Operand} {ts : Array TypeId} {f : FuncId} {fs cs : List PV} {p : PV}
    (ho : o.op = .call { callee := .value x, args := args, argTypes := ts }) (hw : wantA ops A o = some true) (hc : cls.getD i 0 = 1) (hx : ev Γ A x = .func (.func f) fs cs) (he : Enters P f)
    (h : ACalls P Γ f (fs ++ args.toList.map (ev Γ A) ++ cs) H (fun q H1 => q = p ∧ H1 = H)) (hk : DOps P Γ ops cls n0 K rest (aput A o.dst p) H) : DOps P Γ ops cls n0 K ((i, o) :: rest) A H :=
  dops_reads p hw hc (fun A' hev => by
    have hops : ∀ y, y = x ∨ y ∈ args → ev Γ A' y = ev Γ A y := fun y hy => hev y (by
      rw [ho]
      simp only [Op.operands, Call.operands, Array.mem_append]
      rcases hy with rfl | hy
      · exact .inl (by simp)
      · exact .inr hy)
    refine os_call ho (by rw [hops x (.inl rfl)]; exact hx) he ?_
    rw [List.map_congr_left (l := args.toList) fun y hy => hops y (.inr (by simpa using hy))]
    exact h) hk
end
def inm (c : List Pr) (m : List Int) (x : Int) (k : Nat) : List Int := ((c.take k).filter fun p => decide (p.a = x)).foldl addB m
end Go.Proofs.YteicbhkimepbaaaGreatDoor
namespace Go.Proofs.YteicbhkimepbaaaGreatDoor
set_option linter.unusedVariables false
set_option linter.unusedSimpArgs false
set_option maxRecDepth 100000
open Go.RowKit Fw
def MetOk (es : List (Int × PV)) (m : List Int) (T : Nat) : Prop := ∀ x : Int, (find1 x es 0 = none ∧ x ∉ m) ∨ ∃ (k n : Nat), find1 x es 0 = some (k, .int .i64 (n : Int)) ∧ 1 ≤ n ∧ n ≤ T ∧ x ∈ m
def metTo (es : List (Int × PV)) (y : Int) : List (Int × PV) := match find1 y es 0 with
  | none => es ++ [(y, .int .i64 1)]
  | some (k, .int _ n) => es.set k (y, .int .i64 (n + 1))
  | some (k, _) => es
end Go.Proofs.YteicbhkimepbaaaGreatDoor
namespace Go.Proofs.YteicbhkimepbaaaGreatDoor
set_option linter.unusedVariables false
set_option linter.unusedSimpArgs false
set_option maxRecDepth 100000
open Go.RowKit Fw
end Go.Proofs.YteicbhkimepbaaaGreatDoor
namespace Go.Proofs.YteicbhkimepbaaaGreatDoor
set_option linter.unusedVariables false
set_option linter.unusedSimpArgs false
set_option maxRecDepth 100000
open Go.RowKit Fw
end Go.Proofs.YteicbhkimepbaaaGreatDoor
namespace Go.Proofs.YteicbhkimepbaaaGreatDoor
set_option linter.unusedVariables false
set_option linter.unusedSimpArgs false
set_option maxRecDepth 100000
open Go.RowKit Fw
def addI : List Int → Int → List Int
  | [], s => [s]
  | x :: l, s => if x < s then x :: addI l s else if x = s then x :: l else s :: x :: l
theorem add_found {s : Int} : ∀ {l : List Int} {i : Nat}, (∀ j, j < i → ∀ x, l[j]? = some x → x < s) → l[i]? = some s → addI l s = l
  | [], _, _, h => by simp at h
  | x :: l, 0, _, h => by
    simp only [List.getElem?_cons_zero, Option.some.injEq] at h
    subst h
    unfold addI
    rw [if_neg (Int.lt_irrefl _), if_pos rfl]
  | x :: l, i + 1, hl, h => by
    have h0 := hl 0 (by omega) x rfl
    unfold addI
    rw [if_pos h0, add_found (i := i) (fun j hj y hy => hl (j + 1) (by omega) y (by simpa using hy)) (by simpa using h)]
theorem add_ins {s : Int} : ∀ {l : List Int} {i : Nat}, (∀ j, j < i → ∀ x, l[j]? = some x → x < s) → (∀ x, l[i]? = some x → ¬ x < s ∧ x ≠ s) → addI l s = l.take i ++ s :: l.drop i
  | [], i, _, _ => by simp [addI]
  | x :: l, 0, _, h => by
    obtain ⟨h1, h2⟩ := h x rfl
    unfold addI
    rw [if_neg h1, if_neg h2]; rfl
  | x :: l, i + 1, hl, h => by
    have h0 := hl 0 (by omega) x rfl
    unfold addI
    rw [if_pos h0, add_ins (i := i) (fun j hj y hy => hl (j + 1) (by omega) y (by simpa using hy)) (fun y hy => h y (by simpa using hy))]
    rfl
theorem c97 (Γ : Nat → PV) (l : List Int) (s : Int) (hl : l.length ≤ 1000000000000) : Gives Tryz.prog Γ 97 [.vec (l.map I1) false, .int .i64 s] (.vec ((addI l s).map I1) false) := by
  refine fn_of_awp Tryz.func97 rfl (by simp [Tryz.f97]) rfl fun H => ?_
  refine awp_seq ?_
  refine awp_run rfl (by simp only [fwA, seval] <;> rfl) ?_
  refine awp_seq ?_
  refine awp_run rfl (by simp only [fwA, seval] <;> rfl) ?_
  refine awp_seq ?_
  refine awp_block ?_
  refine awp_for [0, 1, 5] (fun i : Nat => [.vec (l.map I1) false, .int .i64 s, .int .i64 i]) (fun _ => H) (fun i => l.length - i) (fun i => i ≤ l.length ∧ ∀ j, j < i → ∀ x, l[j]? = some x → x < s) 0 rfl rfl ⟨Nat.zero_le _, fun j hj => by omega⟩ fun i hs => ?_
  obtain ⟨hi, hp⟩ := hs
  refine awp_seq ?_
  refine awp_seq ?_
  have e1 : ((l.map I1).drop 0).take (i - 0) = (l.take i).map I1 := by simp [List.map_take]
  have e2 : ((l.map I1).drop i).take (l.length - i) = (l.drop i).map I1 := by rw [List.take_of_length_le (by simp), List.map_drop]
  have hti : (l.take i).length = i := by rw [List.length_take]; omega
  have htd : (l.drop i).length = l.length - i := List.length_drop ..
  by_cases hc : (i : Int) < l.length
  rotate_left
  · refine awp_run rfl (by simp only [fwA, seval, gfw, bx, dx, hc] <;> rfl) ?_
    refine awp_cond (b := false) (by simp [alook, aput, ev]) ?_
    refine awp_exit ?_
    have hadd : addI l s = l.take i ++ s :: l.drop i := add_ins hp fun x hx => by
      rw [List.getElem?_eq_none (by omega)] at hx; cases hx
    refine awp_seq ?_
    refine awp_seq ?_
    refine awp_run rfl (by simp only [fwA, seval, gfw, bx, dx, hc] <;> rfl) ?_
    refine awp_cond (b := false) (by simp [alook, aput, ev]) (awp_skip ?_)
    refine awp_seq ?_
    refine awp_drawn [0, 0, 0, 3, 0, 0, 2, 0, 0, 0, 2, 0] [0, 0, 3, 7, 0, 16, 63, 0, 0, 384, 1023, 2047] mixed rfl (by kernel_rfl) ?_
    refine dops_run 2 (by simp only [fwA, seval] <;> rfl) ?_
    refine dops_one (.vec ((l.take i).map I1) false) rfl rfl (fun H A' hev => os_sliceVec (l := 0) (h := i) (es := l.map I1) (f := false) rfl el59 ((hev _ (by simp [Op.operands])).trans rfl) (fun e he => by obtain ⟨x, _, rfl⟩ := List.mem_map.1 he; rfl) rfl ⟨_, (hev _ (by simp [Op.operands])).trans rfl⟩ trivial (Nat.zero_le _) (by rw [List.length_map]; omega) ⟨congrArg (fun z => PV.vec z false) e1, rfl⟩) ?_
    refine dops_appendNew (xs := ((l.take i).map I1).flatten) (n := i) rfl rfl (.inr rfl) (Nat.le_refl _) un59 ti3 un59 (.inl ⟨_, rfl⟩) (by decide) rfl (by simp only [fwA, seval] <;> rfl) (fun es f h e he => by
        simp only [fwA, seval, PV.vec.injEq] at h
        obtain ⟨rfl, rfl⟩ := h
        obtain ⟨x, _, rfl⟩ := List.mem_map.1 he
        rfl) (by simp only [fwA, seval, alen, List.length_map, hti]) (by show i * 8 ≤ _; omega) (by omega) ?_
    refine dops_run 2 (by simp only [fwA, seval, bx] <;> rfl) ?_
    refine dops_appendR (b := H.length) (q := 0) (k := i) (n := 1) (cs := ((l.take i).map I1).flatten) (xs := [.int .i64 s]) rfl rfl rfl un59 ti3 un59 (.inl ⟨_, rfl⟩) rfl (by simp only [fwA, seval] <;> rfl) (by rw [flat_len I1_len, hti]; exact (Nat.zero_add _).symm) (by simp only [fwA, seval] <;> rfl) (fun es f h e he => by
        simp only [fwA, seval, PV.vec.injEq] at h
        obtain ⟨rfl, rfl⟩ := h
        simp only [List.mem_singleton] at he
        subst he; rfl) (by simp only [fwA, seval] <;> rfl) (by show (i + 1) * 8 ≤ _; omega) (by omega) ?_
    refine dops_run 2 (by simp only [fwA, seval] <;> rfl) ?_
    refine dops_one (.vec ((l.drop i).map I1) false) rfl rfl (fun H A' hev => os_sliceVec (l := i) (h := l.length) (es := l.map I1) (f := false) rfl el59 ((hev _ (by simp [Op.operands])).trans rfl) (fun e he => by obtain ⟨x, _, rfl⟩ := List.mem_map.1 he; rfl) ⟨_, (hev _ (by simp [Op.operands])).trans rfl⟩ (by rw [onOpt, List.length_map]) trivial hi (by rw [List.length_map]; omega) ⟨congrArg (fun z => PV.vec z false) e2, rfl⟩) ?_
    refine dops_appendR (b := H.length) (q := 0) (k := i + 1) (n := l.length - i) (cs := ((l.take i).map I1).flatten ++ [.int .i64 s]) (xs := ((l.drop i).map I1).flatten) rfl rfl rfl un59 ti3 un59 (.inl ⟨_, rfl⟩) rfl (by simp only [fwA, seval] <;> rfl) (by rw [List.length_append, flat_len I1_len, hti]; simp) (by simp only [fwA, seval] <;> rfl) (fun es f h e he => by
        simp only [fwA, seval, PV.vec.injEq] at h
        obtain ⟨rfl, rfl⟩ := h
        obtain ⟨x, _, rfl⟩ := List.mem_map.1 he
        rfl) (by simp only [fwA, seval, alen, List.length_map, htd]) (by show (i + 1 + (l.length - i)) * 8 ≤ _; omega) (by omega) ?_
    refine dops_run 1 (by simp only [fwA, seval] <;> rfl) ?_
    refine dops_end ?_
    have hC : (((l.take i ++ s :: l.drop i).map I1).flatten) = ((l.take i).map I1).flatten ++ [.int .i64 s] ++ ((l.drop i).map I1).flatten := by simp [I1]
    have hCl : (l.take i ++ s :: l.drop i).length = l.length + 1 := by rw [List.length_append, List.length_cons, hti, htd]; omega
    rw [hadd]
    refine awp_keep (A' := [(4, .row H.length 0 (l.length + 1) 1)]) [4] (by simp only [akeep, alook, aput, ev, show i + 1 + (l.length - i) = l.length + 1 by omega] <;> rfl) ?_
    generalize l.take i ++ s :: l.drop i = r at hC hCl ⊢
    refine awp_heap (H' := H ++ [.row 1 ((r.map I1).flatten)]) (by rw [hC]; simp) ?_
    refine awp_told (told_freezeAt H _ 0 (C := (r.map I1).flatten) rfl (flat_bd (fun t => by simp only [I1_fw]) _)) ?_
    have hch := flat_chunk I1_len r
    have hfl := flat_len I1_len r
    rw [hCl] at hch hfl
    generalize l.length + 1 = m at hch hfl ⊢
    refine awp_ret (gives_end (.inl rfl) _ ?_)
    simp only [fwA, seval, ares, aresL, ares1, Tryz.f97, hfl, hch]
  have hia : i < l.length := by omega
  have ga : l[i]? = some l[i] := List.getElem?_eq_getElem hia
  generalize l[i] = x at ga
  by_cases hlt : x < s
  rotate_left
  · refine awp_run rfl (by simp only [fwA, seval, gfw, bx, dx, hc, ga, hlt] <;> rfl) ?_
    refine awp_cond (b := false) (by simp [alook, aput, ev]) ?_
    refine awp_exit ?_
    by_cases hxs : x = s
    · subst hxs
      have hadd := add_found hp ga
      refine awp_seq ?_
      refine awp_seq ?_
      refine awp_run rfl (by simp only [fwA, seval, gfw, bx, dx, hc, ga] <;> rfl) ?_
      refine awp_cond (b := true) (by simp [alook, aput, ev]) ?_
      refine awp_seq (awp_run rfl (by simp only [fwA, seval] <;> rfl) (awp_ret ?_))
      exact gives_end0 (.inl rfl) (by rw [hadd]; rfl)
    have hadd : addI l s = l.take i ++ s :: l.drop i := add_ins hp fun y hy => by
      rw [ga] at hy; cases hy; exact ⟨hlt, hxs⟩
    refine awp_seq ?_
    refine awp_seq ?_
    refine awp_run rfl (by simp only [fwA, seval, gfw, bx, dx, hc, ga, hxs] <;> rfl) ?_
    refine awp_cond (b := false) (by simp [alook, aput, ev]) (awp_skip ?_)
    refine awp_seq ?_
    refine awp_drawn [0, 0, 0, 3, 0, 0, 2, 0, 0, 0, 2, 0] [0, 0, 3, 7, 0, 16, 63, 0, 0, 384, 1023, 2047] mixed rfl (by kernel_rfl) ?_
    refine dops_run 2 (by simp only [fwA, seval] <;> rfl) ?_
    refine dops_one (.vec ((l.take i).map I1) false) rfl rfl (fun H A' hev => os_sliceVec (l := 0) (h := i) (es := l.map I1) (f := false) rfl el59 ((hev _ (by simp [Op.operands])).trans rfl) (fun e he => by obtain ⟨x, _, rfl⟩ := List.mem_map.1 he; rfl) rfl ⟨_, (hev _ (by simp [Op.operands])).trans rfl⟩ trivial (Nat.zero_le _) (by rw [List.length_map]; omega) ⟨congrArg (fun z => PV.vec z false) e1, rfl⟩) ?_
    refine dops_appendNew (xs := ((l.take i).map I1).flatten) (n := i) rfl rfl (.inr rfl) (Nat.le_refl _) un59 ti3 un59 (.inl ⟨_, rfl⟩) (by decide) rfl (by simp only [fwA, seval] <;> rfl) (fun es f h e he => by
        simp only [fwA, seval, PV.vec.injEq] at h
        obtain ⟨rfl, rfl⟩ := h
        obtain ⟨x, _, rfl⟩ := List.mem_map.1 he
        rfl) (by simp only [fwA, seval, alen, List.length_map, hti]) (by show i * 8 ≤ _; omega) (by omega) ?_
    refine dops_run 2 (by simp only [fwA, seval, bx] <;> rfl) ?_
    refine dops_appendR (b := H.length) (q := 0) (k := i) (n := 1) (cs := ((l.take i).map I1).flatten) (xs := [.int .i64 s]) rfl rfl rfl un59 ti3 un59 (.inl ⟨_, rfl⟩) rfl (by simp only [fwA, seval] <;> rfl) (by rw [flat_len I1_len, hti]; exact (Nat.zero_add _).symm) (by simp only [fwA, seval] <;> rfl) (fun es f h e he => by
        simp only [fwA, seval, PV.vec.injEq] at h
        obtain ⟨rfl, rfl⟩ := h
        simp only [List.mem_singleton] at he
        subst he; rfl) (by simp only [fwA, seval] <;> rfl) (by show (i + 1) * 8 ≤ _; omega) (by omega) ?_
    refine dops_run 2 (by simp only [fwA, seval] <;> rfl) ?_
    refine dops_one (.vec ((l.drop i).map I1) false) rfl rfl (fun H A' hev => os_sliceVec (l := i) (h := l.length) (es := l.map I1) (f := false) rfl el59 ((hev _ (by simp [Op.operands])).trans rfl) (fun e he => by obtain ⟨x, _, rfl⟩ := List.mem_map.1 he; rfl) ⟨_, (hev _ (by simp [Op.operands])).trans rfl⟩ (by rw [onOpt, List.length_map]) trivial hi (by rw [List.length_map]; omega) ⟨congrArg (fun z => PV.vec z false) e2, rfl⟩) ?_
    refine dops_appendR (b := H.length) (q := 0) (k := i + 1) (n := l.length - i) (cs := ((l.take i).map I1).flatten ++ [.int .i64 s]) (xs := ((l.drop i).map I1).flatten) rfl rfl rfl un59 ti3 un59 (.inl ⟨_, rfl⟩) rfl (by simp only [fwA, seval] <;> rfl) (by rw [List.length_append, flat_len I1_len, hti]; simp) (by simp only [fwA, seval] <;> rfl) (fun es f h e he => by
        simp only [fwA, seval, PV.vec.injEq] at h
        obtain ⟨rfl, rfl⟩ := h
        obtain ⟨x, _, rfl⟩ := List.mem_map.1 he
        rfl) (by simp only [fwA, seval, alen, List.length_map, htd]) (by show (i + 1 + (l.length - i)) * 8 ≤ _; omega) (by omega) ?_
    refine dops_run 1 (by simp only [fwA, seval] <;> rfl) ?_
    refine dops_end ?_
    have hC : (((l.take i ++ s :: l.drop i).map I1).flatten) = ((l.take i).map I1).flatten ++ [.int .i64 s] ++ ((l.drop i).map I1).flatten := by simp [I1]
    have hCl : (l.take i ++ s :: l.drop i).length = l.length + 1 := by rw [List.length_append, List.length_cons, hti, htd]; omega
    rw [hadd]
    refine awp_keep (A' := [(4, .row H.length 0 (l.length + 1) 1)]) [4] (by simp only [akeep, alook, aput, ev, show i + 1 + (l.length - i) = l.length + 1 by omega] <;> rfl) ?_
    generalize l.take i ++ s :: l.drop i = r at hC hCl ⊢
    refine awp_heap (H' := H ++ [.row 1 ((r.map I1).flatten)]) (by rw [hC]; simp) ?_
    refine awp_told (told_freezeAt H _ 0 (C := (r.map I1).flatten) rfl (flat_bd (fun t => by simp only [I1_fw]) _)) ?_
    have hch := flat_chunk I1_len r
    have hfl := flat_len I1_len r
    rw [hCl] at hch hfl
    generalize l.length + 1 = m at hch hfl ⊢
    refine awp_ret (gives_end (.inl rfl) _ ?_)
    simp only [fwA, seval, ares, aresL, ares1, Tryz.f97, hfl, hch]
  refine awp_run rfl (by simp only [fwA, seval, gfw, bx, dx, hc, ga, hlt] <;> rfl) ?_
  refine awp_cond (b := true) (by simp [alook, aput, ev]) (awp_skip ?_)
  refine awp_block ?_
  refine awp_run rfl (by simp only [fwA, seval] <;> rfl) ?_
  refine ⟨i + 1, by omega, ⟨by omega, fun j hj y hy => ?_⟩, by rw [wrapS i (by omega)]; rfl, rfl, rfl⟩
  by_cases e : j = i
  · subst e; rw [ga] at hy; cases hy; exact hlt
  · exact hp j (by omega) y hy
end Go.Proofs.YteicbhkimepbaaaGreatDoor
namespace Go.Proofs.YteicbhkimepbaaaGreatDoor
set_option linter.unusedVariables false
set_option linter.unusedSimpArgs false
set_option maxRecDepth 100000
open Go.RowKit Fw
theorem vleF (es : List (List PV)) : PV.le (.vec es true) (.vec es false) := ⟨nofun, PV.leLL_refl es⟩
theorem addI_mem (s x : Int) : ∀ l : List Int, x ∈ addI l s ↔ x = s ∨ x ∈ l
  | [] => by simp [addI]
  | y :: l => by
    unfold addI
    split
    · rw [List.mem_cons, addI_mem s x l, List.mem_cons]; exact or_left_comm
    · split
      · rename_i h
        subst h
        simp only [List.mem_cons]
        constructor
        · exact fun h => .inr h
        · rintro (h | h)
          · exact .inl h
          · exact h
      · simp only [List.mem_cons]
theorem addI_rise (s : Int) : ∀ l : List Int, l.Pairwise (· < ·) → (addI l s).Pairwise (· < ·)
  | [], _ => by simp [addI]
  | y :: l, h => by
    obtain ⟨h1, h2⟩ := List.pairwise_cons.1 h
    unfold addI
    split
    · rename_i hy
      refine List.pairwise_cons.2 ⟨fun x hx => ?_, addI_rise s l h2⟩
      rcases (addI_mem s x l).1 hx with rfl | hx
      · exact hy
      · exact h1 x hx
    · split
      · exact h
      · refine List.pairwise_cons.2 ⟨fun x hx => ?_, h⟩
        rcases List.mem_cons.1 hx with rfl | hx
        · omega
        · have := h1 x hx; omega
theorem addI_len (s : Int) : ∀ l : List Int, (addI l s).length ≤ l.length + 1
  | [] => by simp [addI]
  | y :: l => by
    have := addI_len s l
    unfold addI
    split
    · simp only [List.length_cons]; omega
    · split <;> simp
def step1 (g : Int → Int × Bool) (o : List Int) (a : Int) : List Int := if (g a).2 then addI o (g a).1 else o
def stepD (g : Int → Int × Bool) (o : List Int) (p : Pr) : List Int := step1 g (step1 g o p.a) p.b
def listD (g : Int → Int × Bool) (l : List Pr) : List Int := l.foldl (stepD g) []
theorem step1_len (g : Int → Int × Bool) (o : List Int) (a : Int) : (step1 g o a).length ≤ o.length + 1 := by
  unfold step1
  split
  · exact addI_len _ _
  · omega
theorem step1_rise (g : Int → Int × Bool) (o : List Int) (a : Int) (h : o.Pairwise (· < ·)) : (step1 g o a).Pairwise (· < ·) := by
  unfold step1
  split
  · exact addI_rise _ _ h
  · exact h
theorem step1_mem (g : Int → Int × Bool) (o : List Int) (a x : Int) : x ∈ step1 g o a ↔ x ∈ outs g a ∨ x ∈ o := by
  unfold step1 outs
  split
  · rw [addI_mem, List.mem_singleton]
  · simp
theorem listD_snoc (g : Int → Int × Bool) (l : List Pr) (i : Nat) (p : Pr) (h : l[i]? = some p) : listD g (l.take (i + 1)) = stepD g (listD g (l.take i)) p := by
  unfold listD
  rw [List.take_add_one, h, List.foldl_append]; rfl
theorem foldD_len (g : Int → Int × Bool) : ∀ (l : List Pr) (o : List Int), (l.foldl (stepD g) o).length ≤ o.length + 2 * l.length
  | [], o => by simp
  | p :: l, o => by
    have h1 := foldD_len g l (stepD g o p)
    have h2 := step1_len g o p.a
    have h3 := step1_len g (step1 g o p.a) p.b
    rw [List.foldl_cons, List.length_cons]
    unfold stepD at *
    omega
theorem listD_len (g : Int → Int × Bool) (l : List Pr) : (listD g l).length ≤ 2 * l.length := by have := foldD_len g l []; unfold listD; simpa using this
theorem foldD_rise (g : Int → Int × Bool) : ∀ (l : List Pr) (o : List Int), o.Pairwise (· < ·) → (l.foldl (stepD g) o).Pairwise (· < ·)
  | [], _, h => h
  | p :: l, o, h => foldD_rise g l _ (step1_rise g _ _ (step1_rise g _ _ h))
theorem foldD_mem (g : Int → Int × Bool) (x : Int) : ∀ (l : List Pr) (o : List Int), x ∈ l.foldl (stepD g) o ↔ x ∈ outsP g l ∨ x ∈ o
  | [], o => by simp [outsP]
  | p :: l, o => by
    rw [List.foldl_cons, foldD_mem g x l]
    unfold stepD outsP
    rw [step1_mem, step1_mem, List.flatMap_cons, List.mem_append, List.mem_append]
    constructor
    · rintro (h | h | h | h)
      · exact .inl (.inr h)
      · exact .inl (.inl (.inr h))
      · exact .inl (.inl (.inl h))
      · exact .inr h
    · rintro ((( h | h) | h) | h)
      · exact .inr (.inr (.inl h))
      · exact .inr (.inl h)
      · exact .inl h
      · exact .inr (.inr (.inr h))
theorem listD_gath (g : Int → Int × Bool) (l : List Pr) : gath g l = listD g l := by
  unfold gath
  refine onceI_is (foldD_rise g l [] List.Pairwise.nil) fun x => ?_
  unfold listD
  rw [foldD_mem]; simp
theorem c55 (Γ : Nat → PV) (ps : List Pr) (hl : ps.length ≤ 1000000000) : Gives Tryz.prog Γ 55 [.vec (ps.map Pr.enc) false] (.vec ((gath gV ps).map I1) false) := by
  rw [listD_gath]
  refine fn_of_awp Tryz.func55 rfl (by simp [Tryz.f55]) rfl fun H => ?_
  refine awp_seq ?_
  refine awp_run rfl (by simp only [fwA, seval] <;> rfl) ?_
  refine awp_seq ?_
  refine awp_run rfl (by simp only [fwA, seval] <;> rfl) ?_
  refine awp_seq ?_
  refine awp_seq ?_
  refine awp_run rfl (by simp only [fwA, seval] <;> rfl) ?_
  refine awp_told (told_le 3 (.vec [] false) (vleF [])) ?_
  refine awp_block ?_
  refine awp_for [0, 3, 4] (fun i : Nat => [.vec (ps.map Pr.enc) false, .vec ((listD gV (ps.take i)).map I1) false, .int .i64 (i : Int)]) (fun _ => H) (fun i => ps.length - i) (fun i => i ≤ ps.length) 0 rfl rfl (Nat.zero_le _) fun i hi => ?_
  refine awp_seq ?_
  refine awp_seq ?_
  refine awp_run rfl (by simp only [fwA, seval, gfw, bx, dx] <;> rfl) ?_
  refine awp_cond (by simp only [fwA, seval] <;> rfl) ?_
  by_cases hc : (i : Int) < ps.length
  rotate_left
  · simp only [hc, decide_false, Bool.false_eq_true, ↓reduceIte]
    refine awp_exit ?_
    have e : i = ps.length := by omega
    subst e
    rw [List.take_length]
    refine awp_seq (awp_run rfl (by simp only [fwA, seval] <;> rfl) (awp_ret ?_))
    exact gives_end0 (.inl rfl) rfl
  simp only [hc, decide_true, ↓reduceIte]
  refine awp_skip ?_
  have hil : i < ps.length := by omega
  have ga : ps[i]? = some ps[i] := List.getElem?_eq_getElem hil
  have hst := listD_snoc gV ps i _ ga
  have hlen := listD_len gV (ps.take i)
  rw [List.length_take] at hlen
  generalize ps[i] = p at ga hst 
  generalize hO : listD gV (ps.take i) = O at *
  have hwi : IntKind.i64.wrap ((i : Int) + 1) = ((i + 1 : Nat) : Int) := wrapS i (by omega)
  have h1 := step1_len gV O p.a
  refine awp_seq ?_
  refine awp_block ?_
  refine awp_seq ?_
  refine awp_seq ?_
  refine awp_run rfl (by simp only [fwA, seval, gfw, bx, dx, ga] <;> rfl) ?_
  refine awp_cond (by simp only [fwA, seval] <;> rfl) ?_
  by_cases ha : 0 ≤ p.a
  · have e1 : step1 gV O p.a = addI O (p.a) := by unfold step1; rw [if_pos (by simp [gV, ha])]; rfl
    rw [e1] at h1
    simp only [ha, decide_true, ↓reduceIte]
    refine awp_region rfl ?_
    refine aops_run 6 (by simp only [fwA, seval, gfw, bx, dx, ga] <;> rfl) ?_
    refine aops_fn rfl rfl rfl en97 (c97 Γ O _ (by omega)) ?_
    refine aops_run 1 (by simp only [fwA, seval] <;> rfl) ?_
    refine aops_end ?_
    refine awp_seq ?_
    refine awp_run rfl (by simp only [fwA, seval, gfw, bx, dx, ga] <;> rfl) ?_
    refine awp_cond (by simp only [fwA, seval] <;> rfl) ?_
    by_cases hb : 0 ≤ p.b
    · have e2 : step1 gV (addI O (p.a)) p.b = addI (addI O (p.a)) (p.b) := by unfold step1; rw [if_pos (by simp [gV, hb])]; rfl
      simp only [hb, decide_true, ↓reduceIte]
      refine awp_region rfl ?_
      refine aops_run 6 (by simp only [fwA, seval, gfw, bx, dx, ga] <;> rfl) ?_
      refine aops_fn rfl rfl rfl en97 (c97 Γ (addI O (p.a)) _ (by omega)) ?_
      refine aops_run 1 (by simp only [fwA, seval] <;> rfl) ?_
      refine aops_end ?_
      refine awp_run rfl (by simp only [fwA, seval] <;> rfl) ?_
      refine ⟨i + 1, by omega, by omega, ?_, rfl, rfl⟩
      rw [hst]; unfold stepD; rw [e1, e2]; simp only [fwA, seval, gfw, hwi]
    · have e2 : step1 gV (addI O (p.a)) p.b = addI O (p.a) := by unfold step1; rw [if_neg (by simp [gV, hb])]
      simp only [hb, decide_false, Bool.false_eq_true, ↓reduceIte]
      refine awp_skip ?_
      refine awp_run rfl (by simp only [fwA, seval] <;> rfl) ?_
      refine ⟨i + 1, by omega, by omega, ?_, rfl, rfl⟩
      rw [hst]; unfold stepD; rw [e1, e2]; simp only [fwA, seval, gfw, hwi]
  · have e1 : step1 gV O p.a = O := by unfold step1; rw [if_neg (by simp [gV, ha])]
    simp only [ha, decide_false, Bool.false_eq_true, ↓reduceIte]
    refine awp_skip ?_
    refine awp_seq ?_
    refine awp_run rfl (by simp only [fwA, seval, gfw, bx, dx, ga] <;> rfl) ?_
    refine awp_cond (by simp only [fwA, seval] <;> rfl) ?_
    by_cases hb : 0 ≤ p.b
    · have e2 : step1 gV (O) p.b = addI (O) (p.b) := by unfold step1; rw [if_pos (by simp [gV, hb])]; rfl
      simp only [hb, decide_true, ↓reduceIte]
      refine awp_region rfl ?_
      refine aops_run 6 (by simp only [fwA, seval, gfw, bx, dx, ga] <;> rfl) ?_
      refine aops_fn rfl rfl rfl en97 (c97 Γ (O) _ (by omega)) ?_
      refine aops_run 1 (by simp only [fwA, seval] <;> rfl) ?_
      refine aops_end ?_
      refine awp_run rfl (by simp only [fwA, seval] <;> rfl) ?_
      refine ⟨i + 1, by omega, by omega, ?_, rfl, rfl⟩
      rw [hst]; unfold stepD; rw [e1, e2]; simp only [fwA, seval, gfw, hwi]
    · have e2 : step1 gV (O) p.b = O := by unfold step1; rw [if_neg (by simp [gV, hb])]
      simp only [hb, decide_false, Bool.false_eq_true, ↓reduceIte]
      refine awp_skip ?_
      refine awp_run rfl (by simp only [fwA, seval] <;> rfl) ?_
      refine ⟨i + 1, by omega, by omega, ?_, rfl, rfl⟩
      rw [hst]; unfold stepD; rw [e1, e2]; simp only [fwA, seval, gfw, hwi]
theorem c65 (Γ : Nat → PV) (ps : List Pr) (hl : ps.length ≤ 1000000000) (ho : OkP ps) : Gives Tryz.prog Γ 65 [.vec (ps.map Pr.enc) false] (.vec ((gath gP ps).map I1) false) := by
  rw [listD_gath]
  refine fn_of_awp Tryz.func65 rfl (by simp [Tryz.f65]) rfl fun H => ?_
  refine awp_seq ?_
  refine awp_run rfl (by simp only [fwA, seval] <;> rfl) ?_
  refine awp_seq ?_
  refine awp_run rfl (by simp only [fwA, seval] <;> rfl) ?_
  refine awp_seq ?_
  refine awp_seq ?_
  refine awp_run rfl (by simp only [fwA, seval] <;> rfl) ?_
  refine awp_told (told_le 3 (.vec [] false) (vleF [])) ?_
  refine awp_block ?_
  refine awp_for [0, 3, 4] (fun i : Nat => [.vec (ps.map Pr.enc) false, .vec ((listD gP (ps.take i)).map I1) false, .int .i64 (i : Int)]) (fun _ => H) (fun i => ps.length - i) (fun i => i ≤ ps.length) 0 rfl rfl (Nat.zero_le _) fun i hi => ?_
  refine awp_seq ?_
  refine awp_seq ?_
  refine awp_run rfl (by simp only [fwA, seval, gfw, bx, dx] <;> rfl) ?_
  refine awp_cond (by simp only [fwA, seval] <;> rfl) ?_
  by_cases hc : (i : Int) < ps.length
  rotate_left
  · simp only [hc, decide_false, Bool.false_eq_true, ↓reduceIte]
    refine awp_exit ?_
    have e : i = ps.length := by omega
    subst e
    rw [List.take_length]
    refine awp_seq (awp_run rfl (by simp only [fwA, seval] <;> rfl) (awp_ret ?_))
    exact gives_end0 (.inl rfl) rfl
  simp only [hc, decide_true, ↓reduceIte]
  refine awp_skip ?_
  have hil : i < ps.length := by omega
  have ga : ps[i]? = some ps[i] := List.getElem?_eq_getElem hil
  have hst := listD_snoc gP ps i _ ga
  have hlen := listD_len gP (ps.take i)
  rw [List.length_take] at hlen
  have hpo := ho ps[i] (List.getElem_mem hil)
  generalize ps[i] = p at ga hst hpo
  generalize hO : listD gP (ps.take i) = O at *
  have hwi : IntKind.i64.wrap ((i : Int) + 1) = ((i + 1 : Nat) : Int) := wrapS i (by omega)
  have h1 := step1_len gP O p.a
  refine awp_seq ?_
  refine awp_block ?_
  refine awp_seq ?_
  refine awp_seq ?_
  refine awp_run rfl (by simp only [fwA, seval, gfw, bx, dx, ga] <;> rfl) ?_
  refine awp_cond (by simp only [fwA, seval] <;> rfl) ?_
  by_cases ha : p.a < 0
  · have e1 : step1 gP O p.a = addI O (pointOf p.a) := by unfold step1; rw [if_pos (by simp [gP, ha])]; rfl
    rw [e1] at h1
    simp only [ha, decide_true, ↓reduceIte]
    refine awp_region rfl ?_
    refine aops_run 6 (by simp only [fwA, seval, gfw, bx, dx, ga] <;> rfl) ?_
    refine aops_fn rfl rfl rfl en112 (c112 Γ p.a hpo.1) ?_
    refine aops_fn rfl rfl rfl en97 (c97 Γ O _ (by omega)) ?_
    refine aops_run 1 (by simp only [fwA, seval] <;> rfl) ?_
    refine aops_end ?_
    refine awp_seq ?_
    refine awp_run rfl (by simp only [fwA, seval, gfw, bx, dx, ga] <;> rfl) ?_
    refine awp_cond (by simp only [fwA, seval] <;> rfl) ?_
    by_cases hb : p.b < 0
    · have e2 : step1 gP (addI O (pointOf p.a)) p.b = addI (addI O (pointOf p.a)) (pointOf p.b) := by unfold step1; rw [if_pos (by simp [gP, hb])]; rfl
      simp only [hb, decide_true, ↓reduceIte]
      refine awp_region rfl ?_
      refine aops_run 6 (by simp only [fwA, seval, gfw, bx, dx, ga] <;> rfl) ?_
      refine aops_fn rfl rfl rfl en112 (c112 Γ p.b hpo.2) ?_
      refine aops_fn rfl rfl rfl en97 (c97 Γ (addI O (pointOf p.a)) _ (by omega)) ?_
      refine aops_run 1 (by simp only [fwA, seval] <;> rfl) ?_
      refine aops_end ?_
      refine awp_run rfl (by simp only [fwA, seval] <;> rfl) ?_
      refine ⟨i + 1, by omega, by omega, ?_, rfl, rfl⟩
      rw [hst]; unfold stepD; rw [e1, e2]; simp only [fwA, seval, gfw, hwi]
    · have e2 : step1 gP (addI O (pointOf p.a)) p.b = addI O (pointOf p.a) := by unfold step1; rw [if_neg (by simp [gP, hb])]
      simp only [hb, decide_false, Bool.false_eq_true, ↓reduceIte]
      refine awp_skip ?_
      refine awp_run rfl (by simp only [fwA, seval] <;> rfl) ?_
      refine ⟨i + 1, by omega, by omega, ?_, rfl, rfl⟩
      rw [hst]; unfold stepD; rw [e1, e2]; simp only [fwA, seval, gfw, hwi]
  · have e1 : step1 gP O p.a = O := by unfold step1; rw [if_neg (by simp [gP, ha])]
    simp only [ha, decide_false, Bool.false_eq_true, ↓reduceIte]
    refine awp_skip ?_
    refine awp_seq ?_
    refine awp_run rfl (by simp only [fwA, seval, gfw, bx, dx, ga] <;> rfl) ?_
    refine awp_cond (by simp only [fwA, seval] <;> rfl) ?_
    by_cases hb : p.b < 0
    · have e2 : step1 gP (O) p.b = addI (O) (pointOf p.b) := by unfold step1; rw [if_pos (by simp [gP, hb])]; rfl
      simp only [hb, decide_true, ↓reduceIte]
      refine awp_region rfl ?_
      refine aops_run 6 (by simp only [fwA, seval, gfw, bx, dx, ga] <;> rfl) ?_
      refine aops_fn rfl rfl rfl en112 (c112 Γ p.b hpo.2) ?_
      refine aops_fn rfl rfl rfl en97 (c97 Γ (O) _ (by omega)) ?_
      refine aops_run 1 (by simp only [fwA, seval] <;> rfl) ?_
      refine aops_end ?_
      refine awp_run rfl (by simp only [fwA, seval] <;> rfl) ?_
      refine ⟨i + 1, by omega, by omega, ?_, rfl, rfl⟩
      rw [hst]; unfold stepD; rw [e1, e2]; simp only [fwA, seval, gfw, hwi]
    · have e2 : step1 gP (O) p.b = O := by unfold step1; rw [if_neg (by simp [gP, hb])]
      simp only [hb, decide_false, Bool.false_eq_true, ↓reduceIte]
      refine awp_skip ?_
      refine awp_run rfl (by simp only [fwA, seval] <;> rfl) ?_
      refine ⟨i + 1, by omega, by omega, ?_, rfl, rfl⟩
      rw [hst]; unfold stepD; rw [e1, e2]; simp only [fwA, seval, gfw, hwi]
end Go.Proofs.YteicbhkimepbaaaGreatDoor
namespace Go.Proofs.YteicbhkimepbaaaGreatDoor
set_option linter.unusedVariables false
set_option linter.unusedSimpArgs false
set_option maxRecDepth 100000
open Go.RowKit Fw
theorem VP.first {c : List Pr} {a b : Int} (h : VP c a b) : ∃ p ∈ c, p.a = a := by
  induction h with
  | one h => exact ⟨_, h, rfl⟩
  | more _ _ _ ih => exact ih
def lowX (c : List Pr) (a : Int) (l : List Int) : List Int := (l.filter fun p => rchB c (-1 - p) a).map fun p => -1 - p
def highX (c : List Pr) (a : Int) (l : List Int) : List Int := (l.filter fun p => rchB c a (-1 - p)).map fun p => -1 - p
theorem c66 (Γ : Nat → PV) (ns : List (List UInt8)) (us : List Nat) (p : Int) : Gives Tryz.prog Γ 66 [.agg [.vec (ns.map S1) false, .vec (us.map U1) false], .int .i64 p] (.bool (ptB ns.length p)) := by
  refine fn_of_awp Tryz.func66 rfl (by simp [Tryz.f66]) rfl fun H => ?_
  refine awp_seq ?_
  refine awp_run rfl (by simp only [fwA, seval, gfw, bx, dx, bitfw] <;> rfl) ?_
  refine awp_seq ?_
  by_cases h0 : 0 ≤ p
  · by_cases h1 : p < ns.length
    · rw [show ptB ns.length p = true from ptB_iff.2 ⟨h0, h1⟩]
      refine awp_run rfl (by simp only [fwA, seval, gfw, bx, dx, bitfw, h0, h1] <;> rfl) ?_
      refine awp_ret ?_
      exact gives_end (.inl rfl) _ rfl
    · rw [show ptB ns.length p = false by unfold ptB; simp [h1]]
      refine awp_run rfl (by simp only [fwA, seval, gfw, bx, dx, bitfw, h0, h1] <;> rfl) ?_
      refine awp_ret ?_
      exact gives_end (.inl rfl) _ rfl
  · rw [show ptB ns.length p = false by unfold ptB; simp [h0]]
    refine awp_run rfl (by simp only [fwA, seval, gfw, bx, dx, bitfw, h0] <;> rfl) ?_
    refine awp_ret ?_
    exact gives_end (.inl rfl) _ rfl
set_option maxHeartbeats 4000000 in
theorem c18 (Γ : Nat → PV) (ns : List (List UInt8)) (us : List Nat) (hw : W64 us) (c : List Pr) (hl : c.length ≤ 100000000) (ho : OkP c) : Gives Tryz.prog Γ 18 [.agg [.vec (ns.map S1) false, .vec (us.map U1) false], .vec (c.map Pr.enc) false] (.bool (knownB ns us c)) := by
  have h64 := c64 Γ ns us hw
  have h65 := c65 Γ c (by omega) ho
  have hpl := both_le c
  refine fn_of_awp Tryz.func18 rfl (by simp [Tryz.f18]) rfl fun H => ?_
  refine awp_seq ?_
  refine awp_run rfl (by simp only [fwA, seval, gfw, bx, dx, bitfw] <;> rfl) ?_
  refine awp_seq ?_
  refine awp_seq ?_
  unfold knownB
  cases hR : rightB ns us
  · rw [hR] at h64
    refine awp_region rfl ?_
    refine aops_run 1 (by simp only [fwA, seval, gfw, bx, dx, bitfw] <;> rfl) ?_
    refine aops_fn rfl rfl rfl en64 h64 ?_
    refine aops_run 1 (by simp only [fwA, seval, gfw, bx, dx, bitfw] <;> rfl) ?_
    refine aops_end ?_
    refine awp_cond (b := true) (by simp [alook, aput, ev]) ?_
    refine awp_seq ?_
    refine awp_run rfl (by simp only [fwA, seval] <;> rfl) ?_
    refine awp_ret ?_
    exact gives_end (.inl rfl) _ rfl
  rw [hR] at h64
  refine awp_region rfl ?_
  refine aops_run 1 (by simp only [fwA, seval, gfw, bx, dx, bitfw] <;> rfl) ?_
  refine aops_fn rfl rfl rfl en64 h64 ?_
  refine aops_run 1 (by simp only [fwA, seval, gfw, bx, dx, bitfw] <;> rfl) ?_
  refine aops_end ?_
  refine awp_cond (b := false) (by simp [alook, aput, ev]) (awp_skip ?_)
  generalize gath gP c = q at *
  refine awp_seq ?_
  refine awp_region rfl ?_
  refine aops_run 1 (by simp only [fwA, seval, gfw, bx, dx, bitfw] <;> rfl) ?_
  refine aops_fn rfl rfl rfl en65 h65 ?_
  refine aops_run 1 (by simp only [fwA, seval, gfw, bx, dx, bitfw] <;> rfl) ?_
  refine aops_end ?_
  refine awp_seq ?_
  refine awp_seq ?_
  refine awp_run rfl (by simp only [fwA, seval] <;> rfl) ?_
  refine awp_block ?_
  refine awp_for [2, 4, 5, 6] (fun i : Nat => [.ptr H.length 0, .bool false, .vec (q.map I1) false, .int .i64 (i : Int)]) (fun _ => H ++ [.box [.vec (ns.map S1) false, .vec (us.map U1) false]]) (fun i => q.length - i) (fun i => i ≤ q.length ∧ ((q.take i).all fun p => ptB ns.length p) = true) 0 rfl rfl ⟨Nat.zero_le _, by simp⟩ fun i ⟨hi, hall⟩ => ?_
  refine awp_seq ?_
  refine awp_seq ?_
  by_cases hc : (i : Int) < q.length
  rotate_left
  · refine awp_run rfl (by simp only [fwA, seval, gfw, bx, dx, bitfw, hc] <;> rfl) ?_
    refine awp_cond (b := false) (by simp [alook, aput, ev]) ?_
    refine awp_exit ?_
    rw [List.take_of_length_le (by omega)] at hall
    rw [hall]
    refine awp_seq ?_
    refine awp_run rfl (by simp only [fwA, seval] <;> rfl) ?_
    refine awp_ret ?_
    exact gives_end (.inl rfl) _ rfl
  have hi' : i < q.length := by omega
  obtain ⟨z, hz⟩ : ∃ z, q[i]? = some z := ⟨_, List.getElem?_eq_getElem hi'⟩
  have hts := take_snoc hz
  have hwi : IntKind.i64.wrap ((i : Int) + 1) = ((i + 1 : Nat) : Int) := wrapS i (by omega)
  have h66 := c66 Γ ns us z
  refine awp_run rfl (by simp only [fwA, seval, gfw, bx, dx, bitfw, hc] <;> rfl) ?_
  refine awp_cond (b := true) (by simp [alook, aput, ev]) ?_
  refine awp_skip ?_
  refine awp_seq ?_
  refine awp_block ?_
  refine awp_seq ?_
  cases hp : ptB ns.length z
  · rw [hp] at h66
    have e : (q.all fun p => ptB ns.length p) = false := by
      rw [List.all_eq_false]
      exact ⟨z, List.mem_of_getElem? hz, by rw [hp]; decide⟩
    refine awp_drawn [1, 0, 0, 0, 1, 0, 0] [0, 0, 0, 6, 14, 31, 63] mixed rfl (by kernel_rfl) ?_
    refine dops_run 5 (by simp only [fwA, seval, gfw, bx, dx, bitfw, hz] <;> rfl) ?_
    refine dops_fn rfl (by simp only [fwA, seval] <;> rfl) rfl rfl en66 h66 ?_
    refine dops_run 1 (by simp only [fwA, seval, gfw, bx, dx, bitfw, hz] <;> rfl) ?_
    refine dops_end ?_
    refine awp_cond (b := true) (by simp [alook, aput, ev]) ?_
    refine awp_seq ?_
    refine awp_run rfl (by simp only [fwA, seval] <;> rfl) ?_
    rw [e]
    refine awp_ret ?_
    exact gives_end (.inl rfl) _ rfl
  · rw [hp] at h66
    refine awp_drawn [1, 0, 0, 0, 1, 0, 0] [0, 0, 0, 6, 14, 31, 63] mixed rfl (by kernel_rfl) ?_
    refine dops_run 5 (by simp only [fwA, seval, gfw, bx, dx, bitfw, hz] <;> rfl) ?_
    refine dops_fn rfl (by simp only [fwA, seval] <;> rfl) rfl rfl en66 h66 ?_
    refine dops_run 1 (by simp only [fwA, seval, gfw, bx, dx, bitfw, hz] <;> rfl) ?_
    refine dops_end ?_
    refine awp_cond (b := false) (by simp [alook, aput, ev]) (awp_skip ?_)
    refine awp_run rfl (by simp only [fwA, seval] <;> rfl) ?_
    exact ⟨i + 1, by omega, ⟨by omega, by rw [hts, List.all_append, hall]; simp [hp]⟩, by simp only [fwA, seval, gfw, hwi], rfl, rfl⟩
end Go.Proofs.YteicbhkimepbaaaGreatDoor
namespace Go.Proofs.YteicbhkimepbaaaGreatDoor
set_option linter.unusedVariables false
set_option linter.unusedSimpArgs false
set_option maxRecDepth 100000
open Go.RowKit Fw
theorem en11 : Enters Tryz.prog 11 := enters_of Tryz.func11 rfl rfl
theorem en12 : Enters Tryz.prog 12 := enters_of Tryz.func12 rfl rfl
theorem en13 : Enters Tryz.prog 13 := enters_of Tryz.func13 rfl rfl
theorem en15 : Enters Tryz.prog 15 := enters_of Tryz.func15 rfl rfl
theorem en16 : Enters Tryz.prog 16 := enters_of Tryz.func16 rfl rfl
theorem en20 : Enters Tryz.prog 20 := enters_of Tryz.func20 rfl rfl
theorem en22 : Enters Tryz.prog 22 := enters_of Tryz.func22 rfl rfl
theorem en48 : Enters Tryz.prog 48 := enters_of Tryz.func48 rfl rfl
theorem en49 : Enters Tryz.prog 49 := enters_of Tryz.func49 rfl rfl
theorem en55 : Enters Tryz.prog 55 := enters_of Tryz.func55 rfl rfl
end Go.Proofs.YteicbhkimepbaaaGreatDoor
namespace Go.Proofs.YteicbhkimepbaaaGreatDoor
set_option linter.unusedVariables false
set_option linter.unusedSimpArgs false
set_option maxRecDepth 100000
open Go.RowKit Fw
set_option maxHeartbeats 4000000 in
theorem c20 (Γ : Nat → PV) (ns : List (List UInt8)) (us : List Nat) (hw : W64 us) (s : List So) (a : Int) (ha : I64 a) : Gives Tryz.prog Γ 20 [.agg [.vec (ns.map S1) false, .vec (us.map U1) false], .vec (s.map So.enc) false, .int .i64 a] (.int .i64 (valueV ns us s a)) := by
  have h56 := c56 Γ ns us hw
  have ha1 := ha.1
  have ha2 := ha.2
  refine fn_of_awp Tryz.func20 rfl (by simp [Tryz.f20]) rfl fun H => ?_
  refine awp_seq ?_
  refine awp_run rfl (by simp only [fwA, seval, gfw, bx, dx, bitfw] <;> rfl) ?_
  refine awp_seq ?_
  refine awp_seq ?_
  by_cases h0 : a < 0
  · have hwa : IntKind.i64.wrap (-1 - a) = -1 - a := wrapId ⟨by omega, by omega⟩
    have h66 := c66 Γ ns us (-1 - a)
    rw [show valueV ns us s a = ptI ns.length (-1 - a) by unfold valueV; rw [if_pos h0, show pointOf a = -1 - a by unfold pointOf; rw [if_neg (by omega)]]]
    unfold ptI
    refine awp_run rfl (by simp only [fwA, seval, gfw, bx, dx, bitfw, h0] <;> rfl) ?_
    refine awp_cond (b := true) (by simp [alook, aput, ev]) ?_
    refine awp_seq ?_
    refine awp_seq ?_
    cases hp : ptB ns.length (-1 - a)
    · rw [hp] at h66
      rw [if_neg (by decide)]
      refine awp_region rfl ?_
      refine aops_run 3 (by simp only [fwA, seval, gfw, bx, dx, bitfw, hwa] <;> rfl) ?_
      refine aops_fn rfl rfl rfl en66 h66 ?_
      refine aops_run 1 (by simp only [fwA, seval, gfw, bx, dx, bitfw, hwa] <;> rfl) ?_
      refine aops_end ?_
      refine awp_cond (b := true) (by simp [alook, aput, ev]) ?_
      refine awp_seq ?_
      refine awp_run rfl (by simp only [fwA, seval] <;> rfl) ?_
      refine awp_ret ?_
      exact gives_end (.inl rfl) _ rfl
    · rw [hp] at h66
      rw [if_pos rfl]
      refine awp_region rfl ?_
      refine aops_run 3 (by simp only [fwA, seval, gfw, bx, dx, bitfw, hwa] <;> rfl) ?_
      refine aops_fn rfl rfl rfl en66 h66 ?_
      refine aops_run 1 (by simp only [fwA, seval, gfw, bx, dx, bitfw, hwa] <;> rfl) ?_
      refine aops_end ?_
      refine awp_cond (b := false) (by simp [alook, aput, ev]) (awp_skip ?_)
      refine awp_seq ?_
      refine awp_run rfl (by simp only [fwA, seval, gfw, bx, dx, bitfw, hwa] <;> rfl) ?_
      refine awp_ret ?_
      exact gives_end (.inl rfl) _ rfl
  refine awp_run rfl (by simp only [fwA, seval, gfw, bx, dx, bitfw, h0] <;> rfl) ?_
  refine awp_cond (b := false) (by simp [alook, aput, ev]) (awp_skip ?_)
  refine awp_seq ?_
  refine awp_seq ?_
  refine awp_run rfl (by simp only [fwA, seval] <;> rfl) ?_
  refine awp_block ?_
  refine awp_for [1, 2, 3, 7] (fun i : Nat => [.vec (s.map So.enc) false, .int .i64 a, .ptr H.length 0, .int .i64 (i : Int)]) (fun _ => H ++ [.box [.vec (ns.map S1) false, .vec (us.map U1) false]]) (fun i => s.length - i) (fun i => i ≤ s.length ∧ (s.take i).find? (fun x => decide (x.v = a)) = none) 0 rfl rfl ⟨Nat.zero_le _, rfl⟩ fun i ⟨hi, hn⟩ => ?_
  refine awp_vlen 1 rfl fun hsl => ?_
  rw [List.length_map] at hsl
  refine awp_seq ?_
  refine awp_seq ?_
  by_cases hc : (i : Int) < s.length
  rotate_left
  · refine awp_run rfl (by simp only [fwA, seval, gfw, bx, dx, bitfw, hc] <;> rfl) ?_
    refine awp_cond (b := false) (by simp [alook, aput, ev]) ?_
    refine awp_exit ?_
    rw [List.take_of_length_le (by omega)] at hn
    rw [show valueV ns us s a = botV ns us by unfold valueV; rw [if_neg h0, hn]]
    refine awp_seq ?_
    refine awp_region rfl ?_
    refine aops_run 1 (by simp only [fwA, seval, gfw, bx, dx, bitfw] <;> rfl) ?_
    refine aops_fn rfl rfl rfl en56 h56 ?_
    refine aops_run 1 (by simp only [fwA, seval, gfw, bx, dx, bitfw] <;> rfl) ?_
    refine aops_end ?_
    refine awp_ret ?_
    exact gives_end (.inl rfl) _ rfl
  have hi' : i < s.length := by omega
  obtain ⟨z, hz⟩ : ∃ z, s[i]? = some z := ⟨_, List.getElem?_eq_getElem hi'⟩
  have hts := take_snoc hz
  have hwi : IntKind.i64.wrap ((i : Int) + 1) = ((i + 1 : Nat) : Int) := wrapS i (by omega)
  have h66 := c66 Γ ns us z.p
  refine awp_run rfl (by simp only [fwA, seval, gfw, bx, dx, bitfw, hc] <;> rfl) ?_
  refine awp_cond (b := true) (by simp [alook, aput, ev]) ?_
  refine awp_skip ?_
  refine awp_seq ?_
  refine awp_block ?_
  refine awp_seq ?_
  by_cases he : z.v = a
  · have hdx : decide (z.v = a) = true := decide_eq_true he
    have e : s.find? (fun x => decide (x.v = a)) = some z := by
      conv => lhs; rw [← List.take_append_drop (i + 1) s]
      rw [hts, List.append_assoc, List.find?_append, hn]
      simp [he]
    rw [show valueV ns us s a = ptI ns.length z.p by unfold valueV; rw [if_neg h0, e]]
    refine awp_run rfl (by simp only [fwA, seval, gfw, bx, dx, bitfw, hz, hdx] <;> rfl) ?_
    refine awp_cond (b := true) (by simp [alook, aput, ev]) ?_
    refine awp_seq ?_
    refine awp_seq ?_
    unfold ptI
    cases hp : ptB ns.length z.p
    · rw [hp] at h66
      refine awp_drawn [1, 0, 0, 0, 0, 1, 0, 0] [0, 0, 0, 6, 14, 30, 63, 127] mixed rfl (by kernel_rfl) ?_
      refine dops_run 6 (by simp only [fwA, seval, gfw, bx, dx, bitfw, hz] <;> rfl) ?_
      refine dops_fn rfl (by simp only [fwA, seval] <;> rfl) rfl rfl en66 h66 ?_
      refine dops_run 1 (by simp only [fwA, seval, gfw, bx, dx, bitfw, hz] <;> rfl) ?_
      refine dops_end ?_
      refine awp_cond (b := true) (by simp [alook, aput, ev]) ?_
      refine awp_seq ?_
      refine awp_run rfl (by simp only [fwA, seval] <;> rfl) ?_
      refine awp_ret ?_
      exact gives_end (.inl rfl) _ rfl
    · rw [hp] at h66
      refine awp_drawn [1, 0, 0, 0, 0, 1, 0, 0] [0, 0, 0, 6, 14, 30, 63, 127] mixed rfl (by kernel_rfl) ?_
      refine dops_run 6 (by simp only [fwA, seval, gfw, bx, dx, bitfw, hz] <;> rfl) ?_
      refine dops_fn rfl (by simp only [fwA, seval] <;> rfl) rfl rfl en66 h66 ?_
      refine dops_run 1 (by simp only [fwA, seval, gfw, bx, dx, bitfw, hz] <;> rfl) ?_
      refine dops_end ?_
      refine awp_cond (b := false) (by simp [alook, aput, ev]) (awp_skip ?_)
      refine awp_seq ?_
      refine awp_run rfl (by simp only [fwA, seval, gfw, bx, dx, bitfw, hz] <;> rfl) ?_
      refine awp_ret ?_
      exact gives_end (.inl rfl) _ rfl
  · have hn2 : (s.take (i + 1)).find? (fun x => decide (x.v = a)) = none := by
      rw [hts, List.find?_append, hn]
      simp [he]
    refine awp_run rfl (by simp only [fwA, seval, gfw, bx, dx, bitfw, hz, he] <;> rfl) ?_
    refine awp_cond (b := false) (by simp [alook, aput, ev]) (awp_skip ?_)
    refine awp_run rfl (by simp only [fwA, seval] <;> rfl) ?_
    exact ⟨i + 1, by omega, ⟨by omega, hn2⟩, by simp only [fwA, seval, gfw, hwi], rfl, rfl⟩
set_option maxHeartbeats 8000000 in
theorem c22 (Γ : Nat → PV) (ns : List (List UInt8)) (us : List Nat) (hw : W64 us) (c : List Pr) (hl : c.length ≤ 100000000) (ho : OkP c) (s : List So) : Gives Tryz.prog Γ 22 [.agg [.vec (ns.map S1) false, .vec (us.map U1) false], .vec (c.map Pr.enc) false, .vec (s.map So.enc) false] (.bool (solvesB ns us c s)) := by
  have h18 := c18 Γ ns us hw c hl ho
  refine fn_of_awp Tryz.func22 rfl (by simp [Tryz.f22]) rfl fun H => ?_
  refine awp_seq ?_
  refine awp_run rfl (by simp only [fwA, seval, gfw, bx, dx, bitfw] <;> rfl) ?_
  refine awp_seq ?_
  refine awp_seq ?_
  unfold solvesB
  cases hk : knownB ns us c
  · rw [hk] at h18
    refine awp_region rfl ?_
    refine aops_run 2 (by simp only [fwA, seval, gfw, bx, dx, bitfw] <;> rfl) ?_
    refine aops_fn rfl rfl rfl en18 h18 ?_
    refine aops_run 1 (by simp only [fwA, seval, gfw, bx, dx, bitfw] <;> rfl) ?_
    refine aops_end ?_
    refine awp_cond (b := true) (by simp [alook, aput, ev]) ?_
    refine awp_seq ?_
    refine awp_run rfl (by simp only [fwA, seval] <;> rfl) ?_
    refine awp_ret ?_
    exact gives_end (.inl rfl) _ rfl
  rw [hk] at h18
  refine awp_region rfl ?_
  refine aops_run 2 (by simp only [fwA, seval, gfw, bx, dx, bitfw] <;> rfl) ?_
  refine aops_fn rfl rfl rfl en18 h18 ?_
  refine aops_run 1 (by simp only [fwA, seval, gfw, bx, dx, bitfw] <;> rfl) ?_
  refine aops_end ?_
  refine awp_cond (b := false) (by simp [alook, aput, ev]) (awp_skip ?_)
  refine awp_seq ?_
  refine awp_seq ?_
  refine awp_run rfl (by simp only [fwA, seval] <;> rfl) ?_
  refine awp_block ?_
  refine awp_for [1, 2, 3, 6, 7] (fun i : Nat => [.vec (c.map Pr.enc) false, .vec (s.map So.enc) false, .ptr H.length 0, .bool false, .int .i64 (i : Int)]) (fun _ => H ++ [.box [.vec (ns.map S1) false, .vec (us.map U1) false]]) (fun i => s.length - i) (fun i => i ≤ s.length ∧ ((s.take i).all fun x => ptB ns.length x.p) = true) 0 rfl rfl ⟨Nat.zero_le _, rfl⟩ fun i ⟨hi, hall⟩ => ?_
  refine awp_vlen 2 rfl fun hsl => ?_
  rw [List.length_map] at hsl
  refine awp_seq ?_
  refine awp_seq ?_
  by_cases hc : (i : Int) < s.length
  rotate_left
  · refine awp_run rfl (by simp only [fwA, seval, gfw, bx, dx, bitfw, hc] <;> rfl) ?_
    refine awp_cond (b := false) (by simp [alook, aput, ev]) ?_
    refine awp_exit ?_
    rw [List.take_of_length_le (by omega)] at hall
    rw [hall]
    refine awp_seq ?_
    refine awp_seq ?_
    refine awp_run rfl (by simp only [fwA, seval] <;> rfl) ?_
    refine awp_block ?_
    refine awp_for [1, 2, 3, 6, 8] (fun j : Nat => [.vec (c.map Pr.enc) false, .vec (s.map So.enc) false, .ptr H.length 0, .bool false, .int .i64 (j : Int)]) (fun _ => H ++ [.box [.vec (ns.map S1) false, .vec (us.map U1) false]]) (fun j => c.length - j) (fun j => j ≤ c.length ∧ ((c.take j).all fun p => leqB (min ns.length us.length) us (valueV ns us s p.a) (valueV ns us s p.b)) = true) 0 rfl rfl ⟨Nat.zero_le _, rfl⟩ fun j ⟨hj, hall2⟩ => ?_
    refine awp_seq ?_
    refine awp_seq ?_
    by_cases hc : (j : Int) < c.length
    rotate_left
    · refine awp_run rfl (by simp only [fwA, seval, gfw, bx, dx, bitfw, hc] <;> rfl) ?_
      refine awp_cond (b := false) (by simp [alook, aput, ev]) ?_
      refine awp_exit ?_
      rw [List.take_of_length_le (by omega)] at hall2
      rw [hall2]
      refine awp_seq ?_
      refine awp_run rfl (by simp only [fwA, seval] <;> rfl) ?_
      refine awp_ret ?_
      exact gives_end (.inl rfl) _ rfl
    have hj' : j < c.length := by omega
    obtain ⟨z, hz⟩ : ∃ z, c[j]? = some z := ⟨_, List.getElem?_eq_getElem hj'⟩
    have hts := take_snoc hz
    have hwi : IntKind.i64.wrap ((j : Int) + 1) = ((j + 1 : Nat) : Int) := wrapS j (by omega)
    have hz64 := ho z (List.mem_of_getElem? hz)
    have h20a := c20 Γ ns us hw s z.a hz64.1
    have h20b := c20 Γ ns us hw s z.b hz64.2
    have h57 := c57 Γ ns us hw (valueV ns us s z.a) (valueV ns us s z.b)
    refine awp_run rfl (by simp only [fwA, seval, gfw, bx, dx, bitfw, hc] <;> rfl) ?_
    refine awp_cond (b := true) (by simp [alook, aput, ev]) ?_
    refine awp_skip ?_
    refine awp_seq ?_
    refine awp_block ?_
    refine awp_seq ?_
    cases hp : leqB (min ns.length us.length) us (valueV ns us s z.a) (valueV ns us s z.b)
    · rw [hp] at h57
      have e : (c.all fun p => leqB (min ns.length us.length) us (valueV ns us s p.a) (valueV ns us s p.b)) = false := by
        rw [List.all_eq_false]
        exact ⟨z, List.mem_of_getElem? hz, by rw [hp]; decide⟩
      refine awp_drawn [1, 1, 0, 0, 0, 0, 0, 1, 0, 1, 0, 0, 0, 0, 0, 1, 0, 0, 0] [0, 0, 0, 0, 0, 24, 56, 120, 254, 0, 0, 0, 0, 6144, 14336, 30720, 65534, 131071, 262143] mixed rfl (by kernel_rfl) ?_
      refine dops_run 8 (by simp only [fwA, seval, gfw, bx, dx, bitfw, hz] <;> rfl) ?_
      refine dops_fn rfl (by simp only [fwA, seval] <;> rfl) rfl rfl en20 h20a ?_
      refine dops_run 7 (by simp only [fwA, seval, gfw, bx, dx, bitfw, hz] <;> rfl) ?_
      refine dops_fn rfl (by simp only [fwA, seval] <;> rfl) rfl rfl en20 h20b ?_
      refine dops_fn rfl (by simp only [fwA, seval] <;> rfl) rfl rfl en57 h57 ?_
      refine dops_run 1 (by simp only [fwA, seval, gfw, bx, dx, bitfw, hz] <;> rfl) ?_
      refine dops_end ?_
      refine awp_cond (b := true) (by simp [alook, aput, ev]) ?_
      refine awp_seq ?_
      refine awp_run rfl (by simp only [fwA, seval] <;> rfl) ?_
      rw [e]
      refine awp_ret ?_
      exact gives_end (.inl rfl) _ rfl
    · rw [hp] at h57
      refine awp_drawn [1, 1, 0, 0, 0, 0, 0, 1, 0, 1, 0, 0, 0, 0, 0, 1, 0, 0, 0] [0, 0, 0, 0, 0, 24, 56, 120, 254, 0, 0, 0, 0, 6144, 14336, 30720, 65534, 131071, 262143] mixed rfl (by kernel_rfl) ?_
      refine dops_run 8 (by simp only [fwA, seval, gfw, bx, dx, bitfw, hz] <;> rfl) ?_
      refine dops_fn rfl (by simp only [fwA, seval] <;> rfl) rfl rfl en20 h20a ?_
      refine dops_run 7 (by simp only [fwA, seval, gfw, bx, dx, bitfw, hz] <;> rfl) ?_
      refine dops_fn rfl (by simp only [fwA, seval] <;> rfl) rfl rfl en20 h20b ?_
      refine dops_fn rfl (by simp only [fwA, seval] <;> rfl) rfl rfl en57 h57 ?_
      refine dops_run 1 (by simp only [fwA, seval, gfw, bx, dx, bitfw, hz] <;> rfl) ?_
      refine dops_end ?_
      refine awp_cond (b := false) (by simp [alook, aput, ev]) (awp_skip ?_)
      refine awp_run rfl (by simp only [fwA, seval] <;> rfl) ?_
      exact ⟨j + 1, by omega, ⟨by omega, by rw [hts, List.all_append, hall2]; simp [hp]⟩, by simp only [fwA, seval, gfw, hwi], rfl, rfl⟩
  have hi' : i < s.length := by omega
  obtain ⟨z, hz⟩ : ∃ z, s[i]? = some z := ⟨_, List.getElem?_eq_getElem hi'⟩
  have hts := take_snoc hz
  have hwi : IntKind.i64.wrap ((i : Int) + 1) = ((i + 1 : Nat) : Int) := wrapS i (by omega)
  have h66 := c66 Γ ns us z.p
  refine awp_run rfl (by simp only [fwA, seval, gfw, bx, dx, bitfw, hc] <;> rfl) ?_
  refine awp_cond (b := true) (by simp [alook, aput, ev]) ?_
  refine awp_skip ?_
  refine awp_seq ?_
  refine awp_block ?_
  refine awp_seq ?_
  cases hp : ptB ns.length z.p
  · rw [hp] at h66
    have e : (s.all fun x => ptB ns.length x.p) = false := by
      rw [List.all_eq_false]
      exact ⟨z, List.mem_of_getElem? hz, by rw [hp]; decide⟩
    refine awp_drawn [1, 0, 0, 0, 0, 1, 0, 0] [0, 0, 0, 6, 14, 30, 63, 127] mixed rfl (by kernel_rfl) ?_
    refine dops_run 6 (by simp only [fwA, seval, gfw, bx, dx, bitfw, hz] <;> rfl) ?_
    refine dops_fn rfl (by simp only [fwA, seval] <;> rfl) rfl rfl en66 h66 ?_
    refine dops_run 1 (by simp only [fwA, seval, gfw, bx, dx, bitfw, hz] <;> rfl) ?_
    refine dops_end ?_
    refine awp_cond (b := true) (by simp [alook, aput, ev]) ?_
    refine awp_seq ?_
    refine awp_run rfl (by simp only [fwA, seval] <;> rfl) ?_
    rw [e]
    refine awp_ret ?_
    exact gives_end (.inl rfl) _ rfl
  · rw [hp] at h66
    refine awp_drawn [1, 0, 0, 0, 0, 1, 0, 0] [0, 0, 0, 6, 14, 30, 63, 127] mixed rfl (by kernel_rfl) ?_
    refine dops_run 6 (by simp only [fwA, seval, gfw, bx, dx, bitfw, hz] <;> rfl) ?_
    refine dops_fn rfl (by simp only [fwA, seval] <;> rfl) rfl rfl en66 h66 ?_
    refine dops_run 1 (by simp only [fwA, seval, gfw, bx, dx, bitfw, hz] <;> rfl) ?_
    refine dops_end ?_
    refine awp_cond (b := false) (by simp [alook, aput, ev]) (awp_skip ?_)
    refine awp_run rfl (by simp only [fwA, seval] <;> rfl) ?_
    exact ⟨i + 1, by omega, ⟨by omega, by rw [hts, List.all_append, hall]; simp [hp]⟩, by simp only [fwA, seval, gfw, hwi], rfl, rfl⟩
end Go.Proofs.YteicbhkimepbaaaGreatDoor
namespace Go.Proofs.YteicbhkimepbaaaGreatDoor
set_option linter.unusedVariables false
set_option linter.unusedSimpArgs false
set_option maxRecDepth 100000
open Go.RowKit Fw
def ptV (n : Nat) (a : Int) : Int := if a < 0 then -1 - (-1 - a).tmod (n : Int) else a.tmod 8
end Go.Proofs.YteicbhkimepbaaaGreatDoor
namespace Go.Proofs.YteicbhkimepbaaaGreatDoor
set_option linter.unusedVariables false
set_option linter.unusedSimpArgs false
set_option maxRecDepth 100000
open Go.RowKit Fw
def ptP (n : Nat) (p : Pr) : Pr := ⟨ptV n p.a, ptV n p.b⟩
def ptsV (n : Nat) (c : List Pr) : List Pr := (c.take 30).map (ptP n)
end Go.Proofs.YteicbhkimepbaaaGreatDoor
namespace Go.Proofs.YteicbhkimepbaaaGreatDoor
set_option linter.unusedVariables false
set_option linter.unusedSimpArgs false
set_option maxRecDepth 100000
open Go.RowKit Fw
def latsV : List (List (List UInt8) × List Nat) := [([[80]], [1]), ([[76, 111], [72, 105]], [3, 2]), ([[72, 105], [76, 111]], [1, 3]), ([[76], [65], [66], [72]], [15, 10, 12, 8]), ([[76], [77], [72]], [7, 6, 4]), ([[76], [65], [66], [67], [72]], [31, 18, 20, 24, 16])]
def laE (f : Bool) (x : List (List UInt8) × List Nat) : List PV := [.vec (x.1.map S1) f, .vec (x.2.map U1) f]
theorem laE_le (x : List (List UInt8) × List Nat) : PV.leL (laE true x) (laE false x) := ⟨⟨nofun, PV.leLL_refl _⟩, ⟨nofun, PV.leLL_refl _⟩, trivial⟩
theorem laE_leL : ∀ l : List (List (List UInt8) × List Nat), PV.leLL (l.map (laE true)) (l.map (laE false))
  | [] => trivial
  | x :: l => ⟨laE_le x, laE_leL l⟩
end Go.Proofs.YteicbhkimepbaaaGreatDoor
namespace Go.Proofs.YteicbhkimepbaaaGreatDoor
set_option linter.unusedVariables false
set_option linter.unusedSimpArgs false
set_option maxRecDepth 100000
open Go.RowKit Fw
variable {ns : List (List UInt8)} {us : List Nat} {c : List Pr} {σ : Int → Nat}
theorem gath_nodup (c : List Pr) : (gath gV c).Nodup := onceI_nodup c
theorem find_sol (σ : Int → Nat) (a : Int) : ∀ vs : List Int, (vs.map fun v => (⟨v, (σ v : Int)⟩ : So)).find? (fun x => decide (x.v = a)) = if a ∈ vs then some ⟨a, (σ a : Int)⟩ else none
  | [] => by simp
  | v :: vs => by
    rw [List.map_cons, List.find?_cons]
    by_cases h : v = a
    · subst h; simp
    · simp only [h, decide_false, find_sol σ a vs, List.mem_cons]
      by_cases h2 : a ∈ vs
      · simp [h2]
      · have : a ≠ v := fun e => h e.symm
        simp [h2, this]
theorem value_sol (hR : rightB ns us = true) (hσ : ∀ v, σ v < us.length) {a : Int} (ha : 0 ≤ a) : valueV ns us (solL c σ) a = if a ∈ gath gV c then (σ a : Int) else botV ns us := by
  obtain ⟨_, r2, _⟩ := right_spec hR
  unfold valueV solL
  rw [if_neg (by omega), find_sol]
  by_cases h : a ∈ gath gV c
  · rw [if_pos h, if_pos h]
    show ptI ns.length (σ a : Int) = _
    unfold ptI
    rw [if_pos (ptB_iff.2 ⟨by omega, by have := hσ a; omega⟩)]
  · rw [if_neg h, if_neg h]
theorem var_a {p : Pr} (hp : p ∈ c) (h : 0 ≤ p.a) : p.a ∈ gath gV c := (vars_mem c _).2 ⟨h, p, hp, .inl rfl⟩
theorem var_b {p : Pr} (hp : p ∈ c) (h : 0 ≤ p.b) : p.b ∈ gath gV c := (vars_mem c _).2 ⟨h, p, hp, .inr rfl⟩
end Go.Proofs.YteicbhkimepbaaaGreatDoor
namespace Go.Proofs.YteicbhkimepbaaaGreatDoor
set_option linter.unusedVariables false
set_option linter.unusedSimpArgs false
set_option maxRecDepth 100000
open Go.RowKit Fw
theorem so_drop0 {l : List So} {k : Nat} {x : So} (h : l[k]? = some x) : (((l.map So.enc).flatten).drop (k * 2))[0]? = some (.int .i64 x.v) := by
  obtain ⟨hk, rfl⟩ := List.getElem?_eq_some_iff.1 h
  rw [flat_drop So.enc_len, List.drop_eq_getElem_cons hk, List.map_cons, List.flatten_cons]
  rfl
theorem value_row (Γ : Nat → PV) (ns : List (List UInt8)) (us : List Nat) (hw : W64 us) {H : List Blk} {b : Nat} {l : List So} {k : Nat} (a : Int) (ha : I64 a) (hk : k = l.length) (hb : H[b]? = some (.row 2 ((l.map So.enc).flatten))) : ACalls Tryz.prog Γ 20 [.agg [.vec (ns.map S1) false, .vec (us.map U1) false], .row b 0 k 2, .int .i64 a] H (fun q H' => q = .int .i64 (valueV ns us l a) ∧ H' = H) := by
  subst hk
  refine acalls_lent (c20 Γ ns us hw l a ha) rfl rfl fun i x x' h1 h2 => ?_
  match i with
  | 0 => cases h1; cases h2; exact ⟨rfl, rfl⟩
  | 1 =>
    cases h1; cases h2
    refine ⟨_, hb, flat_bd (fun t => by simp only [So.fw]) _, by rw [flat_len So.enc_len]; omega, ?_⟩
    rw [List.drop_zero, flat_chunk So.enc_len]
  | 2 => cases h1; cases h2; exact ⟨rfl, rfl⟩
  | k + 3 => cases h1
theorem value_sol2 {ns : List (List UInt8)} {us : List Nat} {c : List Pr} {σ : Int → Nat} (hR : rightB ns us = true) (hσ : ∀ v, σ v < us.length) {a : Int} (hp : a < 0 → (-1 - a).toNat < us.length) (ha : 0 ≤ a → a ∈ gath gV c) : valueV ns us (solW (gath gV c) σ) a = ((vl σ a : Nat) : Int) := by
  obtain ⟨_, r2, _⟩ := right_spec hR
  unfold vl
  by_cases h0 : a < 0
  · have := hp h0
    unfold valueV ptI
    rw [if_pos h0, if_pos h0, show pointOf a = -1 - a by unfold pointOf; rw [if_neg (by omega)], if_pos (ptB_iff.2 ⟨by omega, by omega⟩)]
    omega
  · rw [if_neg h0]
    have h := value_sol (c := c) hR hσ (a := a) (by omega)
    rw [if_pos (ha (by omega))] at h
    exact h
set_option maxHeartbeats 32000000 in
theorem c15 (Γ : Nat → PV) (ns : List (List UInt8)) (us : List Nat) (hw : W64 us) (c : List Pr) (hl : c.length ≤ 10000000) (ho : OkP c) : Gives Tryz.prog Γ 15 [.agg [.vec (ns.map S1) false, .vec (us.map U1) false], .vec (c.map Pr.enc) false] (leastEnc (leastV ns us c)) := by
  have h18 := c18 Γ ns us hw c (by omega) ho
  have h55 := c55 Γ c (by omega)
  have h56 := c56 Γ ns us hw
  have hvl := both_le c
  have hnd := gath_nodup c
  refine fn_of_awp Tryz.func15 rfl (by simp [Tryz.f15]) rfl fun H => ?_
  refine awp_bd fun hbd => ?_
  refine awp_seq ?_
  refine awp_run rfl (by simp only [fwA, seval, gfw, bx, dx, bitfw] <;> rfl) ?_
  refine awp_seq ?_
  refine awp_seq ?_
  cases hk : knownB ns us c
  · rw [show leastV ns us c = ([], false) from leastV_eq (.inl ⟨hk, rfl⟩)]
    rw [hk] at h18
    refine awp_region rfl ?_
    refine aops_run 2 (by simp only [fwA, seval, gfw, bx, dx, bitfw] <;> rfl) ?_
    refine aops_fn rfl rfl rfl en18 h18 ?_
    refine aops_run 1 (by simp only [fwA, seval, gfw, bx, dx, bitfw] <;> rfl) ?_
    refine aops_end ?_
    refine awp_cond (b := true) (by simp [alook, aput, ev]) ?_
    refine awp_seq ?_
    refine awp_run rfl (by simp only [fwA, seval] <;> rfl) ?_
    refine awp_told (told_le 4 (.vec [] false) ⟨nofun, trivial⟩) ?_
    refine awp_ret ?_
    exact gives_end (.inl rfl) _ rfl
  rw [hk] at h18
  obtain ⟨hR, hP⟩ := known_spec.1 hk
  obtain ⟨_, r2, r3, _, r5⟩ := right_spec hR
  obtain ⟨bt, ebt, hbt⟩ := bot_nat hR
  rw [ebt] at h56
  have hva : ∀ p ∈ c, (0 ≤ p.a → p.a ∈ gath gV c) ∧ (0 ≤ p.b → p.b ∈ gath gV c) := fun p hp => ⟨var_a hp, var_b hp⟩
  have hval := fun (σ : Int → Nat) (h1 : ∀ v, σ v < us.length) (a : Int) => value_sol2 (ns := ns) (us := us) (c := c) (σ := σ) hR h1 (a := a)
  have hsolL : ∀ σ, solL c σ = solW (gath gV c) σ := fun σ => rfl
  have hdone : ∀ σ, SolS us.length (lq us) c σ → Lows us.length (lq us) c σ → leastV ns us c = (solW (gath gV c) σ, true) := fun σ h1 h2 => leastV_eq (.inr ⟨hk, .inl ⟨σ, h1, h2, rfl⟩⟩)
  have hfail : (∀ τ, ¬ SolS us.length (lq us) c τ) → leastV ns us c = ([], false) := fun h => leastV_eq (.inr ⟨hk, .inr ⟨h, rfl⟩⟩)
  refine awp_region rfl ?_
  refine aops_run 2 (by simp only [fwA, seval, gfw, bx, dx, bitfw] <;> rfl) ?_
  refine aops_fn rfl rfl rfl en18 h18 ?_
  refine aops_run 1 (by simp only [fwA, seval, gfw, bx, dx, bitfw] <;> rfl) ?_
  refine aops_end ?_
  refine awp_cond (b := false) (by simp [alook, aput, ev]) (awp_skip ?_)
  generalize gath gV c = vs at *
  refine awp_seq ?_
  refine awp_region rfl ?_
  refine aops_run 1 (by simp only [fwA, seval, gfw, bx, dx, bitfw] <;> rfl) ?_
  refine aops_fn rfl rfl rfl en55 h55 ?_
  refine aops_run 1 (by simp only [fwA, seval, gfw, bx, dx, bitfw] <;> rfl) ?_
  refine aops_end ?_
  refine awp_seq ?_
  refine awp_run rfl (by simp only [fwA, seval] <;> rfl) ?_
  refine awp_seq ?_
  refine awp_region rfl ?_
  refine aops_run 1 (by simp only [fwA, seval, gfw, bx, dx, bitfw] <;> rfl) ?_
  refine aops_fn rfl rfl rfl en56 h56 ?_
  refine aops_run 1 (by simp only [fwA, seval, gfw, bx, dx, bitfw] <;> rfl) ?_
  refine aops_end ?_
  refine awp_told (told_adopt 7 2 (by decide) (by simp [alook])) ?_
  refine awp_heap (H' := H ++ [.box [.vec (ns.map S1) false, .vec (us.map U1) false], .row 2 (((solW (vs.take 0) (fun _ => bt)).map So.enc).flatten)]) (by simp [solW]) ?_
  refine awp_seq ?_
  refine awp_seq ?_
  refine awp_run rfl (by simp only [fwA, seval] <;> rfl) ?_
  refine awp_block ?_
  refine awp_for [1, 2, 6, 7, 8, 9] (fun i : Nat => [.vec (c.map Pr.enc) false, .ptr H.length 0, .vec (vs.map I1) false, .row (H.length + 1) 0 i 2, .int .i64 (bt : Int), .int .i64 (i : Int)]) (fun i => H ++ [.box [.vec (ns.map S1) false, .vec (us.map U1) false], .row 2 (((solW (vs.take i) (fun _ => bt)).map So.enc).flatten)]) (fun i => vs.length - i) (fun i => i ≤ vs.length) 0 rfl rfl (Nat.zero_le _) fun i hi => ?_
  refine awp_seq ?_
  refine awp_seq ?_
  by_cases hc : (i : Int) < vs.length
  rotate_right
  · refine awp_run rfl (by simp only [fwA, seval, gfw, bx, dx, bitfw, hc] <;> rfl) ?_
    refine awp_cond (b := false) (by simp [alook, aput, ev]) ?_
    refine awp_exit ?_
    rw [List.take_of_length_le (show vs.length ≤ i by omega), show i = vs.length by omega]
    refine awp_seq ?_
    refine awp_seq ?_
    refine awp_run rfl (by simp only [fwA, seval] <;> rfl) ?_
    refine awp_block ?_
    refine awp_for [1, 2, 7, 10] (fun s : (Int → Nat) × Bool => [.vec (c.map Pr.enc) false, .ptr H.length 0, .row (H.length + 1) 0 vs.length 2, .bool s.2]) (fun s => H ++ [.box [.vec (ns.map S1) false, .vec (us.map U1) false], .row 2 (((solW vs s.1).map So.enc).flatten)]) (fun s => rkS us.length (lq us) vs s.1 + (if s.2 = true then 1 else 0)) (fun s => Lows us.length (lq us) c s.1 ∧ (s.2 = false → SolS us.length (lq us) c s.1)) ((fun _ => bt), true) rfl rfl ⟨low_bot fun _ => hbt, fun h => by cases h⟩ fun ⟨σ, ag⟩ ⟨hlow, hsol⟩ => ?_
    simp only at hlow hsol
    refine awp_seq ?_
    refine awp_seq ?_
    cases ag
    · refine awp_run rfl (by simp only [fwA, seval] <;> rfl) ?_
      refine awp_cond (b := false) (by simp [alook, aput, ev]) ?_
      refine awp_exit ?_
      rw [hdone σ (hsol rfl) hlow]
      have hl2 := flat_len So.enc_len (solW vs σ)
      have hch2 := flat_chunk So.enc_len (solW vs σ)
      rw [solW_len] at hl2 hch2
      refine awp_told (told_freezeAt H _ 1 (C := ((solW vs σ).map So.enc).flatten) rfl (flat_bd (fun t => by simp only [So.fw]) _)) ?_
      refine awp_keep (A' := [(7, .vec ((solW vs σ).map So.enc) false)]) [7] (by simp only [fwA, seval, gfw, akeep, hl2, hch2] <;> rfl) ?_
      refine awp_seq ?_
      refine awp_run rfl (by simp only [fwA, seval] <;> rfl) ?_
      refine awp_ret ?_
      exact gives_end (.inl rfl) _ rfl
    refine awp_run rfl (by simp only [fwA, seval] <;> rfl) ?_
    refine awp_cond (b := true) (by simp [alook, aput, ev]) ?_
    refine awp_skip ?_
    refine awp_block ?_
    refine awp_seq ?_
    refine awp_run rfl (by simp only [fwA, seval] <;> rfl) ?_
    refine awp_seq ?_
    refine awp_run rfl (by simp only [fwA, seval] <;> rfl) ?_
    refine awp_block ?_
    refine awp_for [1, 2, 7, 10, 11] (fun s : (Int → Nat) × Bool × Nat => [.vec (c.map Pr.enc) false, .ptr H.length 0, .row (H.length + 1) 0 vs.length 2, .bool s.2.1, .int .i64 (s.2.2 : Int)]) (fun s => H ++ [.box [.vec (ns.map S1) false, .vec (us.map U1) false], .row 2 (((solW vs s.1).map So.enc).flatten)]) (fun s => c.length - s.2.2) (fun s => s.2.2 ≤ c.length ∧ Lows us.length (lq us) c s.1 ∧ (s.2.1 = false → s.1 = σ ∧ ∀ q ∈ c.take s.2.2, satP (lq us) σ q) ∧ (s.2.1 = true → rkS us.length (lq us) vs s.1 < rkS us.length (lq us) vs σ)) (σ, false, 0) rfl rfl ⟨Nat.zero_le _, hlow, fun _ => ⟨rfl, by simp⟩, fun h => by cases h⟩ fun ⟨σ', ag, i⟩ ⟨hi, hlow', hno, hyes⟩ => ?_
    simp only at hi hlow' hno hyes ⊢
    refine awp_seq ?_
    refine awp_seq ?_
    by_cases hc : (i : Int) < c.length
    rotate_right
    · refine awp_run rfl (by simp only [fwA, seval, gfw, bx, dx, bitfw, hc] <;> rfl) ?_
      refine awp_cond (b := false) (by simp [alook, aput, ev]) ?_
      refine awp_exit ?_
      cases ag
      · obtain ⟨e, hall⟩ := hno rfl
        rw [List.take_of_length_le (by omega)] at hall
        exact ⟨(σ', false), by simp only [e]; simp, ⟨hlow', fun _ => by rw [e]; exact ⟨hlow.1, hall⟩⟩, by simp only [fwA, seval, gfw], rfl, rfl⟩
      · have := hyes rfl
        exact ⟨(σ', true), by simp only [↓reduceIte]; omega, ⟨hlow', fun h => by cases h⟩, by simp only [fwA, seval, gfw], rfl, rfl⟩
    have hi' : i < c.length := by omega
    obtain ⟨p, hz⟩ : ∃ p, c[i]? = some p := ⟨_, List.getElem?_eq_getElem hi'⟩
    have hpc := List.mem_of_getElem? hz
    have hts := take_snoc hz
    have hwi : IntKind.i64.wrap ((i : Int) + 1) = ((i + 1 : Nat) : Int) := wrapS i (by omega)
    have hp64 := ho p hpc
    have hPp := hP p hpc
    have hvp := hva p hpc
    have hva' := hval σ' hlow'.1 p.a hPp.1 hvp.1
    have hvb' := hval σ' hlow'.1 p.b hPp.2 hvp.2
    have hla := vl_lt hlow'.1 hPp.1
    have hlb := vl_lt hlow'.1 hPp.2
    have g1 : ∀ B1 B2 : Blk, (H ++ [B1, B2])[H.length + 1]? = some B2 := fun B1 B2 => by rw [Fw.get_at]; rfl
    have h57 := c57 Γ ns us hw ((vl σ' p.a : Nat) : Int) ((vl σ' p.b : Nat) : Int)
    rw [leq_nat r2 hla hlb] at h57
    refine awp_run rfl (by simp only [fwA, seval, gfw, bx, dx, bitfw, hc] <;> rfl) ?_
    refine awp_cond (b := true) (by simp [alook, aput, ev]) ?_
    refine awp_skip ?_
    refine awp_join [1, 2, 7, 10, 11] (fun s : (Int → Nat) × Bool => [.vec (c.map Pr.enc) false, .ptr H.length 0, .row (H.length + 1) 0 vs.length 2, .bool s.2, .int .i64 (i : Int)]) (fun s => H ++ [.box [.vec (ns.map S1) false, .vec (us.map U1) false], .row 2 (((solW vs s.1).map So.enc).flatten)]) (fun s => Lows us.length (lq us) c s.1 ∧ (s.2 = false → s.1 = σ ∧ ∀ q ∈ c.take (i + 1), satP (lq us) σ q) ∧ (s.2 = true → rkS us.length (lq us) vs s.1 < rkS us.length (lq us) vs σ)) ?_ fun ⟨σ2, ag2⟩ ⟨q1, q2, q3⟩ => ?_
    · refine awp_block ?_
      refine awp_seq ?_
      refine awp_drawn [1,0,0,0,0,0,0,1,0] [0, 0, 0, 0, 12, 28, 60, 127, 255] mixed rfl (by kernel_rfl) ?_
      refine dops_run 7 (by simp only [fwA, seval, gfw, bx, dx, bitfw, hz] <;> rfl) ?_
      refine dops_lent (p := .int .i64 ((vl σ' p.a : Nat) : Int)) rfl (by simp only [fwA, seval] <;> rfl) rfl rfl en20 (by rw [← hva']; exact value_row Γ ns us hw p.a hp64.1 (solW_len vs σ').symm (g1 _ _)) ?_
      refine dops_run 1 (by simp only [fwA, seval, gfw, bx, dx, bitfw, hz] <;> rfl) ?_
      refine dops_end ?_
      refine awp_seq ?_
      refine awp_drawn [1,0,0,0,0,0,0,1,0] [0, 0, 0, 0, 12, 28, 60, 127, 255] mixed rfl (by kernel_rfl) ?_
      refine dops_run 7 (by simp only [fwA, seval, gfw, bx, dx, bitfw, hz] <;> rfl) ?_
      refine dops_lent (p := .int .i64 ((vl σ' p.b : Nat) : Int)) rfl (by simp only [fwA, seval] <;> rfl) rfl rfl en20 (by rw [← hvb']; exact value_row Γ ns us hw p.b hp64.2 (solW_len vs σ').symm (g1 _ _)) ?_
      refine dops_run 1 (by simp only [fwA, seval, gfw, bx, dx, bitfw, hz] <;> rfl) ?_
      refine dops_end ?_
      refine awp_seq ?_
      refine awp_seq ?_
      cases hle : lq us (vl σ' p.a) (vl σ' p.b)
      rotate_left
      · rw [hle] at h57
        refine awp_region rfl ?_
        refine aops_run 3 (by simp only [fwA, seval, gfw, bx, dx, bitfw] <;> rfl) ?_
        refine aops_fn rfl rfl rfl en57 h57 ?_
        refine aops_end ?_
        refine awp_cond (b := true) (by simp [alook, aput, ev]) ?_
        refine awp_exit ?_
        refine ⟨(σ', ag), ⟨hlow', fun h => ?_, hyes⟩, by simp only [fwA, seval, gfw], rfl, rfl⟩
        obtain ⟨e, hall⟩ := hno h
        refine ⟨e, fun q hq => ?_⟩
        rw [hts, List.mem_append, List.mem_singleton] at hq
        rcases hq with hq | rfl
        · exact hall q hq
        · rw [e] at hle; exact hle
      rw [hle] at h57
      refine awp_region rfl ?_
      refine aops_run 3 (by simp only [fwA, seval, gfw, bx, dx, bitfw] <;> rfl) ?_
      refine aops_fn rfl rfl rfl en57 h57 ?_
      refine aops_end ?_
      refine awp_cond (b := false) (by simp [alook, aput, ev]) (awp_skip ?_)
      refine awp_seq ?_
      refine awp_seq ?_
      by_cases hb0 : p.b < 0
      · refine awp_run rfl (by simp only [fwA, seval, gfw, bx, dx, bitfw, hz, hb0] <;> rfl) ?_
        refine awp_cond (b := true) (by simp [alook, aput, ev]) ?_
        refine awp_seq ?_
        refine awp_run rfl (by simp only [fwA, seval] <;> rfl) ?_
        rw [hfail (low_fail r5.toOrd hP hlow' hpc hb0 hle)]
        refine awp_told (told_le 4 (.vec [] false) ⟨nofun, trivial⟩) ?_
        refine awp_ret ?_
        exact gives_end (.inl rfl) _ rfl
      have hb1 : 0 ≤ p.b := by omega
      have hvbs : vl σ' p.b = σ' p.b := by unfold vl; rw [if_neg hb0]
      obtain ⟨kv, hkv⟩ := List.getElem?_of_mem (hvp.2 hb1)
      have hkl := (List.getElem?_eq_some_iff.1 hkv).1
      obtain ⟨j, ej, hj⟩ := join_nat hR hla hlb
      have h58 := c58 Γ ns us hw ((vl σ' p.a : Nat) : Int) ((vl σ' p.b : Nat) : Int)
      rw [ej] at h58
      rw [hvbs] at hj hle
      refine awp_run rfl (by simp only [fwA, seval, gfw, bx, dx, bitfw, hz, hb0] <;> rfl) ?_
      refine awp_cond (b := false) (by simp [alook, aput, ev]) (awp_skip ?_)
      refine awp_seq ?_
      refine awp_run rfl (by simp only [fwA, seval] <;> rfl) ?_
      refine awp_seq ?_
      refine awp_block ?_
      refine awp_for [1, 2, 7, 11, 12, 13, 14] (fun k : Nat => [.vec (c.map Pr.enc) false, .ptr H.length 0, .row (H.length + 1) 0 vs.length 2, .int .i64 (i : Int), .int .i64 ((vl σ' p.a : Nat) : Int), .int .i64 ((vl σ' p.b : Nat) : Int), .int .i64 (k : Int)]) (fun _ => H ++ [.box [.vec (ns.map S1) false, .vec (us.map U1) false], .row 2 (((solW vs σ').map So.enc).flatten)]) (fun k => kv - k) (fun k => k ≤ kv) 0 rfl rfl (Nat.zero_le _) fun k hkk => ?_
      have hk' : k < vs.length := by omega
      obtain ⟨w, hwk⟩ : ∃ w, vs[k]? = some w := ⟨_, List.getElem?_eq_getElem hk'⟩
      have hwn : IntKind.i64.wrap ((k : Int) + 1) = ((k + 1 : Nat) : Int) := wrapS k (by omega)
      have hsw := solW_get (σ := σ') hwk
      refine awp_seq ?_
      refine awp_seq ?_
      by_cases hwb : w = p.b
      · have hdx : decide (w = p.b) = true := decide_eq_true hwb
        have hkk2 : k = kv := by
          rcases Nat.lt_or_ge k kv with h | h
          · exfalso
            rw [hwb] at hwk
            have e1 := (List.getElem?_eq_some_iff.1 hwk)
            have e2 := (List.getElem?_eq_some_iff.1 hkv)
            obtain ⟨b1, e1⟩ := e1
            obtain ⟨b2, e2⟩ := e2
            exact List.pairwise_iff_getElem.1 hnd k kv b1 b2 h (e1.trans e2.symm)
          · omega
        subst hkk2
        refine awp_drawn [0,0,1,0,1,0,0,0,0,0,0] [0, 0, 3, 7, 15, 0, 0, 96, 224, 480, 1023] mixed rfl (by kernel_rfl) ?_
        refine dops_run 2 (by simp only [fwA, seval, gfw, bx, dx, bitfw, hz, hwb] <;> rfl) ?_
        refine dops_idxRow (i := k) (l := solW vs σ') So.enc_len rfl rfl rfl el36 rfl rfl (g1 _ _) (by rw [solW_len]; omega) hk' ?_
        refine dops_run 1 (by simp only [fwA, seval, gfw, bx, dx, bitfw, hz, hwb] <;> rfl) ?_
        refine dops_reads (.int .i64 w) rfl rfl (fun A' hev => os_load (cs := ((((solW vs σ').map So.enc).flatten).drop (k * 2))) rfl ti3 (by
            unfold rd
            rw [hev _ (by simp [Op.operands])]
            show (match (H ++ [Blk.box [.vec (ns.map S1) false, .vec (us.map U1) false], Blk.row 2 (((solW vs σ').map So.enc).flatten)])[H.length + 1]? with
              | some (.row _ cs) => if cs.length = (solW vs σ').length * 2 then some (cs.drop (k * 2)) else none
              | _ => none) = _
            rw [g1]
            simp only [flat_len So.enc_len, ↓reduceIte]) (by rw [if_neg (by decide)]; exact so_drop0 hsw) ⟨rfl, rfl⟩) ?_
        refine dops_run 6 (by simp only [fwA, seval, gfw, bx, dx, bitfw, hz, hwb] <;> rfl) ?_
        refine dops_end ?_
        refine awp_cond (b := false) (by simp [alook, aput, ev]) ?_
        refine awp_exit ?_
        refine awp_seq ?_
        refine awp_region rfl ?_
        refine aops_run 5 (by simp only [fwA, seval, gfw, bx, dx, bitfw] <;> rfl) ?_
        refine aops_fn rfl rfl rfl en58 h58 ?_
        refine aops_one rfl (os_idxRow (i := k) (l := solW vs σ') So.enc_len rfl el36 rfl rfl (g1 _ _) (by rw [solW_len]; omega) hk' ?_)
        refine aops_run 1 (by simp only [fwA, seval, gfw, bx, dx, bitfw] <;> rfl) ?_
        refine aops_one rfl (os_storeE rfl ti3 rfl (g1 _ _) (by rw [flat_len So.enc_len]) rfl rfl (by rw [flat_len So.enc_len, solW_len]; show k * 2 + 1 + 1 ≤ vs.length * 2; omega) (by decide) ?_)
        refine aops_end ?_
        refine awp_run rfl (by simp only [fwA, seval] <;> rfl) ?_
        have hrise := step_rise r5.toOrd hlow'.1 hla hle hj
        have hups := (rkS_upd hrise vs).2 (hvp.2 hb1)
        have hlow2 := low_step r5.toOrd hP hlow' hpc hb1 hj
        refine ⟨(upd σ' p.b j, true), ⟨hlow2, (fun h => by cases h), fun _ => ?_⟩, by simp only [fwA, seval, gfw], ?_, rfl⟩
        · cases ag
          · obtain ⟨e, _⟩ := hno rfl
            show rkS us.length (lq us) vs (upd σ' p.b j) < _
            rw [← e]; exact hups
          · have := hyes rfl
            show rkS us.length (lq us) vs (upd σ' p.b j) < _
            omega
        · have hput := so_put (j : Int) hsw
          rw [hwb] at hput
          rw [solW_upd hnd hkv] at hput
          show _ = H ++ [Blk.box [.vec (ns.map S1) false, .vec (us.map U1) false], Blk.row 2 (((solW vs (upd σ' p.b j)).map So.enc).flatten)]
          rw [← hput]
          simp [splice]
      · have hkv2 : k < kv := by
          rcases Nat.lt_or_ge k kv with h | h
          · exact h
          · exfalso
            have : k = kv := by omega
            subst this
            rw [hkv] at hwk
            exact hwb (Option.some.inj hwk).symm
        refine awp_drawn [0,0,1,0,1,0,0,0,0,0,0] [0, 0, 3, 7, 15, 0, 0, 96, 224, 480, 1023] mixed rfl (by kernel_rfl) ?_
        refine dops_run 2 (by simp only [fwA, seval, gfw, bx, dx, bitfw, hz, hwb] <;> rfl) ?_
        refine dops_idxRow (i := k) (l := solW vs σ') So.enc_len rfl rfl rfl el36 rfl rfl (g1 _ _) (by rw [solW_len]; omega) hk' ?_
        refine dops_run 1 (by simp only [fwA, seval, gfw, bx, dx, bitfw, hz, hwb] <;> rfl) ?_
        refine dops_reads (.int .i64 w) rfl rfl (fun A' hev => os_load (cs := ((((solW vs σ').map So.enc).flatten).drop (k * 2))) rfl ti3 (by
            unfold rd
            rw [hev _ (by simp [Op.operands])]
            show (match (H ++ [Blk.box [.vec (ns.map S1) false, .vec (us.map U1) false], Blk.row 2 (((solW vs σ').map So.enc).flatten)])[H.length + 1]? with
              | some (.row _ cs) => if cs.length = (solW vs σ').length * 2 then some (cs.drop (k * 2)) else none
              | _ => none) = _
            rw [g1]
            simp only [flat_len So.enc_len, ↓reduceIte]) (by rw [if_neg (by decide)]; exact so_drop0 hsw) ⟨rfl, rfl⟩) ?_
        refine dops_run 6 (by simp only [fwA, seval, gfw, bx, dx, bitfw, hz, hwb] <;> rfl) ?_
        refine dops_end ?_
        refine awp_cond (b := true) (by simp [alook, aput, ev]) ?_
        refine awp_skip ?_
        refine awp_block ?_
        refine awp_run rfl (by simp only [fwA, seval] <;> rfl) ?_
        exact ⟨k + 1, by omega, by omega, by simp only [fwA, seval, gfw, hwn], rfl, rfl⟩
    refine awp_run rfl (by simp only [fwA, seval] <;> rfl) ?_
    exact ⟨(σ2, ag2, i + 1), by simp only; omega, ⟨by simp only; omega, q1, q2, q3⟩, by simp only [fwA, seval, gfw, hwi], rfl, rfl⟩
  have hi' : i < vs.length := by omega
  obtain ⟨z, hz⟩ : ∃ z, vs[i]? = some z := ⟨_, List.getElem?_eq_getElem hi'⟩
  have hts := take_snoc hz
  have hwi : IntKind.i64.wrap ((i : Int) + 1) = ((i + 1 : Nat) : Int) := wrapS i (by omega)
  refine awp_run rfl (by simp only [fwA, seval, gfw, bx, dx, bitfw, hc] <;> rfl) ?_
  refine awp_cond (b := true) (by simp [alook, aput, ev]) ?_
  refine awp_skip ?_
  refine awp_seq ?_
  refine awp_block ?_
  refine awp_region rfl ?_
  refine aops_run 8 (by simp only [fwA, seval, gfw, bx, dx, bitfw, hz] <;> rfl) ?_
  refine aops_push (enc := So.enc) (l := solW (vs.take i) (fun _ => bt)) (z := ⟨z, (bt : Int)⟩) So.enc_len rfl rfl un36 ti41 rfl un36 rfl (by simp [Fw.get_at]) (by rw [solW_len, List.length_take]; omega) rfl (by show (i + 1) * 16 ≤ _; omega) (by omega) rfl ?_
  refine aops_run 1 (by simp only [fwA, seval, gfw, bx, dx, bitfw, hz] <;> rfl) ?_
  refine aops_end ?_
  refine awp_run rfl (by simp only [fwA, seval] <;> rfl) ?_
  refine ⟨i + 1, by omega, by omega, by simp only [fwA, seval, gfw, hwi], ?_, rfl⟩
  rw [hts]; simp [Fw.set_at, solW]
end Go.Proofs.YteicbhkimepbaaaGreatDoor
namespace Go.Proofs.YteicbhkimepbaaaGreatDoor
set_option linter.unusedVariables false
set_option linter.unusedSimpArgs false
set_option maxRecDepth 100000
open Go.RowKit Fw
def diN : List (List UInt8) := [[76], [65], [66], [72]]
def diU : List Nat := [15, 10, 12, 8]
theorem di_right : rightB diN diU = true := by kernel_rfl
theorem di_trans : ∀ x : Fin 4, ∀ a b : Fin 4, lq diU a b = true → lq diU b x = true → lq diU a x = true := by decide +kernel
theorem di_bot : ∀ x : Fin 4, lq diU 0 x = true := by decide +kernel
theorem di_top : ∀ x : Fin 4, lq diU 1 x = true → lq diU 2 x = true → lq diU 3 x = true := by decide +kernel
def exC : List Pr := [⟨-2, 0⟩, ⟨-3, 1⟩, ⟨0, 2⟩, ⟨1, 2⟩]
def exS : Int → Nat := fun v => if v = 0 then 1 else if v = 1 then 2 else if v = 2 then 3 else 0
theorem pts_ofD {n : Nat} {c : List Pr} (h : (c.all fun p => (decide (0 ≤ p.a) || decide ((-1 - p.a).toNat < n)) && (decide (0 ≤ p.b) || decide ((-1 - p.b).toNat < n))) = true) : PtsOk n c := fun p hp => by
  rw [List.all_eq_true] at h
  have := h p hp
  simp only [Bool.and_eq_true, Bool.or_eq_true, decide_eq_true_eq] at this
  omega
theorem sat_ptD {r : Nat → Nat → Bool} {τ : Int → Nat} {a b : Int} (h : satP r τ ⟨a, b⟩) : r (if a < 0 then (-1 - a).toNat else τ a) (if b < 0 then (-1 - b).toNat else τ b) = true := h
theorem ex_vars : gath gV exC = [0, 1, 2] := by
  unfold gath
  exact onceI_is (by decide) (fun x => by simp [outsP, outs, gV, exC]; omega)
theorem ex_least : leastV diN diU exC = ([⟨0, 1⟩, ⟨1, 2⟩, ⟨2, 3⟩], true) := by
  refine leastV_eq (.inr ⟨known_spec.2 ⟨di_right, pts_ofD (by kernel_rfl)⟩, .inl ⟨exS, ⟨fun v => ?_, ?_⟩, ⟨fun v => ?_, fun τ ht v => ?_⟩, by unfold solL; rw [ex_vars]; kernel_rfl⟩⟩)
  · unfold exS; show _ < 4; split <;> (try split) <;> (try split) <;> decide
  · intro p hp
    simp only [exC, List.mem_cons, List.not_mem_nil, or_false] at hp
    rcases hp with rfl | rfl | rfl | rfl <;> (unfold satP; kernel_rfl)
  · unfold exS; show _ < 4; split <;> (try split) <;> (try split) <;> decide
  · have h0 : lq diU 1 (τ 0) = true := by simpa using sat_ptD (ht.2 ⟨-2, 0⟩ (by simp [exC]))
    have h1 : lq diU 2 (τ 1) = true := by simpa using sat_ptD (ht.2 ⟨-3, 1⟩ (by simp [exC]))
    have h2 : lq diU (τ 0) (τ 2) = true := by simpa using sat_ptD (ht.2 ⟨0, 2⟩ (by simp [exC]))
    have h3 : lq diU (τ 1) (τ 2) = true := by simpa using sat_ptD (ht.2 ⟨1, 2⟩ (by simp [exC]))
    have l0 := ht.1 0
    have l1 := ht.1 1
    have l2 := ht.1 2
    have lv := ht.1 v
    have e1 := di_trans ⟨τ 2, l2⟩ 1 ⟨τ 0, l0⟩ h0 h2
    have e2 := di_trans ⟨τ 2, l2⟩ 2 ⟨τ 1, l1⟩ h1 h3
    have e3 := di_top ⟨τ 2, l2⟩ e1 e2
    unfold exS
    split
    · rename_i e; rw [e]; exact h0
    · split
      · rename_i e; rw [e]; exact h1
      · split
        · rename_i e; rw [e]; exact e3
        · exact di_bot ⟨τ v, lv⟩
theorem ex_none : leastV diN diU [⟨-4, 0⟩, ⟨0, -2⟩] = ([], false) := by
  refine leastV_eq (.inr ⟨known_spec.2 ⟨di_right, pts_ofD (by kernel_rfl)⟩, .inr ⟨fun τ ht => ?_, rfl⟩⟩)
  have h0 : lq diU 3 (τ 0) = true := by simpa using sat_ptD (ht.2 ⟨-4, 0⟩ (by simp))
  have h1 : lq diU (τ 0) 1 = true := by simpa using sat_ptD (ht.2 ⟨0, -2⟩ (by simp))
  have := di_trans 1 3 ⟨τ 0, ht.1 0⟩ h0 h1
  revert this; decide +kernel
theorem ex_strange : leastV diN diU [⟨-10, 0⟩] = ([], false) := leastV_eq (.inl ⟨by
  cases h : knownB diN diU [⟨-10, 0⟩]
  · rfl
  · have := ((known_spec.1 h).2 ⟨-10, 0⟩ (by simp)).1 (by decide)
    revert this; decide, rfl⟩)
end Go.Proofs.YteicbhkimepbaaaGreatDoor
namespace Go.Proofs.YteicbhkimepbaaaGreatDoor
set_option linter.unusedVariables false
set_option linter.unusedSimpArgs false
set_option maxRecDepth 100000
open Go.RowKit Fw
theorem c13 (Γ : Nat → PV) (c : List Pr) (hl : c.length ≤ 1200000000000) : Gives Tryz.prog Γ 13 [.vec (c.map Pr.enc) false] (.vec (c.map Pr.enc) false) := by
  refine fn_of_awp Tryz.func13 rfl (by simp [Tryz.f13]) rfl fun H => ?_
  refine awp_seq ?_
  refine awp_run rfl (by simp only [fwA, seval] <;> rfl) ?_
  refine awp_seq ?_
  refine awp_run rfl (by simp only [fwA, seval] <;> rfl) ?_
  refine awp_told (told_adopt 3 2 (by decide) (by simp [alook])) ?_
  refine awp_heap (H' := H ++ [.row 2 (((c.take 0).map Pr.enc).flatten)]) (by simp) ?_
  refine awp_seq ?_
  refine awp_seq ?_
  refine awp_run rfl (by simp only [fwA, seval] <;> rfl) ?_
  refine awp_block ?_
  refine awp_for [0, 3, 4] (fun i : Nat => [.vec (c.map Pr.enc) false, .row H.length 0 i 2, .int .i64 (i : Int)]) (fun i => H ++ [.row 2 (((c.take i).map Pr.enc).flatten)]) (fun i => c.length - i) (fun i => i ≤ c.length) 0 rfl rfl (Nat.zero_le _) fun i hi => ?_
  refine awp_seq ?_
  refine awp_seq ?_
  by_cases hc : (i : Int) < c.length
  rotate_left
  · refine awp_run rfl (by simp only [fwA, seval, gfw, bx, dx, bitfw, hc] <;> rfl) ?_
    refine awp_cond (b := false) (by simp [alook, aput, ev]) ?_
    refine awp_exit ?_
    rw [List.take_of_length_le (show c.length ≤ i by omega), show i = c.length by omega]
    refine awp_told (told_freezeAt H _ 0 (C := (c.map Pr.enc).flatten) rfl (flat_bd (fun t => by simp only [Pr.fw]) _)) ?_
    have hl2 := flat_len Pr.enc_len c
    have hch2 := flat_chunk Pr.enc_len c
    refine awp_keep (A' := [(3, .vec (c.map Pr.enc) false)]) [3] (by simp only [fwA, seval, gfw, akeep, hl2, hch2] <;> rfl) ?_
    refine awp_seq ?_
    refine awp_run rfl (by simp only [fwA, seval] <;> rfl) ?_
    refine awp_ret ?_
    exact gives_end (.inl rfl) _ rfl
  have hi' : i < c.length := by omega
  obtain ⟨z, hz⟩ : ∃ z, c[i]? = some z := ⟨_, List.getElem?_eq_getElem hi'⟩
  have hts := take_snoc hz
  have hwi : IntKind.i64.wrap ((i : Int) + 1) = ((i + 1 : Nat) : Int) := wrapS i (by omega)
  refine awp_run rfl (by simp only [fwA, seval, gfw, bx, dx, bitfw, hc] <;> rfl) ?_
  refine awp_cond (b := true) (by simp [alook, aput, ev]) ?_
  refine awp_skip ?_
  refine awp_seq ?_
  refine awp_block ?_
  refine awp_drawn [0,0,0,0,0,0,0,0,0,0,0,0,0,2,0] [0, 0, 0, 6, 14, 30, 0, 0, 192, 448, 960, 2046, 4094, 8191, 16383] mixed rfl (by kernel_rfl) ?_
  refine dops_run 13 (by simp only [fwA, seval, gfw, bx, dx, bitfw, hz] <;> rfl) ?_
  refine dops_push (enc := Pr.enc) (l := c.take i) (z := z) Pr.enc_len rfl rfl rfl un32 ti86 rfl un32 rfl (by simp [Fw.get_at0]) (by rw [List.length_take]; omega) rfl (by show (i + 1) * 16 ≤ _; omega) (by omega) rfl ?_
  refine dops_run 1 (by simp only [fwA, seval, gfw, bx, dx, bitfw, hz] <;> rfl) ?_
  refine dops_end ?_
  refine awp_run rfl (by simp only [fwA, seval] <;> rfl) ?_
  refine ⟨i + 1, by omega, by omega, by simp only [fwA, seval, gfw, hwi], ?_, rfl⟩
  rw [hts]
theorem c16 (Γ : Nat → PV) (c : List So) (hl : c.length ≤ 1200000000000) : Gives Tryz.prog Γ 16 [.vec (c.map So.enc) false] (.vec (c.map So.enc) false) := by
  refine fn_of_awp Tryz.func16 rfl (by simp [Tryz.f16]) rfl fun H => ?_
  refine awp_seq ?_
  refine awp_run rfl (by simp only [fwA, seval] <;> rfl) ?_
  refine awp_seq ?_
  refine awp_run rfl (by simp only [fwA, seval] <;> rfl) ?_
  refine awp_told (told_adopt 3 2 (by decide) (by simp [alook])) ?_
  refine awp_heap (H' := H ++ [.row 2 (((c.take 0).map So.enc).flatten)]) (by simp) ?_
  refine awp_seq ?_
  refine awp_seq ?_
  refine awp_run rfl (by simp only [fwA, seval] <;> rfl) ?_
  refine awp_block ?_
  refine awp_for [0, 3, 4] (fun i : Nat => [.vec (c.map So.enc) false, .row H.length 0 i 2, .int .i64 (i : Int)]) (fun i => H ++ [.row 2 (((c.take i).map So.enc).flatten)]) (fun i => c.length - i) (fun i => i ≤ c.length) 0 rfl rfl (Nat.zero_le _) fun i hi => ?_
  refine awp_seq ?_
  refine awp_seq ?_
  by_cases hc : (i : Int) < c.length
  rotate_left
  · refine awp_run rfl (by simp only [fwA, seval, gfw, bx, dx, bitfw, hc] <;> rfl) ?_
    refine awp_cond (b := false) (by simp [alook, aput, ev]) ?_
    refine awp_exit ?_
    rw [List.take_of_length_le (show c.length ≤ i by omega), show i = c.length by omega]
    refine awp_told (told_freezeAt H _ 0 (C := (c.map So.enc).flatten) rfl (flat_bd (fun t => by simp only [So.fw]) _)) ?_
    have hl2 := flat_len So.enc_len c
    have hch2 := flat_chunk So.enc_len c
    refine awp_keep (A' := [(3, .vec (c.map So.enc) false)]) [3] (by simp only [fwA, seval, gfw, akeep, hl2, hch2] <;> rfl) ?_
    refine awp_seq ?_
    refine awp_run rfl (by simp only [fwA, seval] <;> rfl) ?_
    refine awp_ret ?_
    exact gives_end (.inl rfl) _ rfl
  have hi' : i < c.length := by omega
  obtain ⟨z, hz⟩ : ∃ z, c[i]? = some z := ⟨_, List.getElem?_eq_getElem hi'⟩
  have hts := take_snoc hz
  have hwi : IntKind.i64.wrap ((i : Int) + 1) = ((i + 1 : Nat) : Int) := wrapS i (by omega)
  refine awp_run rfl (by simp only [fwA, seval, gfw, bx, dx, bitfw, hc] <;> rfl) ?_
  refine awp_cond (b := true) (by simp [alook, aput, ev]) ?_
  refine awp_skip ?_
  refine awp_seq ?_
  refine awp_block ?_
  refine awp_drawn [0,0,0,0,0,0,0,0,0,0,0,0,0,2,0] [0, 0, 0, 6, 14, 30, 0, 0, 192, 448, 960, 2046, 4094, 8191, 16383] mixed rfl (by kernel_rfl) ?_
  refine dops_run 13 (by simp only [fwA, seval, gfw, bx, dx, bitfw, hz] <;> rfl) ?_
  refine dops_push (enc := So.enc) (l := c.take i) (z := z) So.enc_len rfl rfl rfl un36 ti41 rfl un36 rfl (by simp [Fw.get_at0]) (by rw [List.length_take]; omega) rfl (by show (i + 1) * 16 ≤ _; omega) (by omega) rfl ?_
  refine dops_run 1 (by simp only [fwA, seval, gfw, bx, dx, bitfw, hz] <;> rfl) ?_
  refine dops_end ?_
  refine awp_run rfl (by simp only [fwA, seval] <;> rfl) ?_
  refine ⟨i + 1, by omega, by omega, by simp only [fwA, seval, gfw, hwi], ?_, rfl⟩
  rw [hts]
theorem c12 (Γ : Nat → PV) (ns : List (List UInt8)) (us : List Nat) : Gives Tryz.prog Γ 12 [.agg [.vec (ns.map S1) false, .vec (us.map U1) false]] (.agg [.vec (ns.map S1) false, .vec (us.map U1) false]) := by
  refine fn_of_awp Tryz.func12 rfl (by simp [Tryz.f12]) rfl fun H => ?_
  refine awp_seq ?_
  refine awp_run rfl (by simp only [fwA, seval, bx] <;> rfl) ?_
  refine awp_seq ?_
  refine awp_run rfl (by simp only [fwA, seval, gfw, bx, dx, bitfw] <;> rfl) ?_
  refine awp_ret ?_
  exact gives_end (.inl rfl) _ (by simp [ares, aresL, ares1, Tryz.f12, alook, rd, ev, ti30])
set_option maxHeartbeats 4000000 in
theorem c48 (Γ : Nat → PV) : Gives Tryz.prog Γ 48 [] (.vec (latsV.map (laE false)) false) := by
  refine (show Gives Tryz.prog Γ 48 [] (.vec (latsV.map (laE true)) true) from ?_).res ⟨nofun, laE_leL latsV⟩
  refine fn_of_awp Tryz.func48 rfl (by simp [Tryz.f48]) rfl fun H => ?_
  refine awp_seq ?_
  refine awp_run rfl (by simp only [fwA, seval] <;> rfl) ?_
  refine awp_seq ?_
  refine awp_run rfl (by simp only [fwA, seval, gfw, bx, dx, bitfw] <;> rfl) ?_
  refine awp_ret ?_
  exact gives_end0 (.inl rfl) (by simp [ares, aresL, ares1, Tryz.f48, alook, ev, latsV, laE, S1, U1])
theorem c49 (Γ : Nat → PV) (hΓ : Tab64 Γ) (ns : List (List UInt8)) (us : List Nat) (hw : W64 us) (t : Nat) (et : topV ns us = (t : Int)) (ht : t < 9223372036854775807) : Gives Tryz.prog Γ 49 [.agg [.vec (ns.map S1) false, .vec (us.map U1) false]] (.int .i64 (-1 - (t : Int))) := by
  have h79 := c79 Γ hΓ ns us hw
  rw [et] at h79
  have h47 := c47 Γ (t : Int) ⟨by omega, by omega⟩
  rw [if_neg (by omega)] at h47
  refine fn_of_awp Tryz.func49 rfl (by simp [Tryz.f49]) rfl fun H => ?_
  refine awp_seq ?_
  refine awp_run rfl (by simp only [fwA, seval, gfw, bx, dx, bitfw] <;> rfl) ?_
  refine awp_seq ?_
  refine awp_region rfl ?_
  refine aops_run 1 (by simp only [fwA, seval, gfw, bx, dx, bitfw] <;> rfl) ?_
  refine aops_fn rfl rfl rfl en79 h79 ?_
  refine aops_fn rfl rfl rfl en47 h47 ?_
  refine aops_run 1 (by simp only [fwA, seval, gfw, bx, dx, bitfw] <;> rfl) ?_
  refine aops_end ?_
  refine awp_ret ?_
  exact gives_end (.inl rfl) _ rfl
theorem di_known {c : List Pr} (h : (c.all fun p => (decide (0 ≤ p.a) || decide ((-1 - p.a).toNat < 4)) && (decide (0 ≤ p.b) || decide ((-1 - p.b).toNat < 4))) = true) : knownB diN diU c = true := known_spec.2 ⟨di_right, pts_ofD h⟩
theorem di_solves {c : List Pr} {s : List So} {b : Bool} (hk : knownB diN diU c = true) (h : ((s.all fun x => ptB diN.length x.p) && c.all fun p => leqB (min diN.length diU.length) diU (valueV diN diU s p.a) (valueV diN diU s p.b)) = b) : solvesB diN diU c s = b := by
  unfold solvesB
  rw [hk, Bool.true_and]; exact h
theorem di_w64 : W64 diU := fun x hx => by simp [diU] at hx; omega
set_option maxHeartbeats 8000000 in
theorem c11 (Γ : Nat → PV) (hΓ : Tab64 Γ) : Gives Tryz.prog Γ 11 [] (.bool true) := by
  have h9 := c48 Γ
  have hget : (latsV.map (laE false))[3]? = some [.vec (diN.map S1) false, .vec (diU.map U1) false] := rfl
  have hlen : latsV.length = 6 := rfl
  have okc : ∀ c : List Pr, (c.all fun p => decide (-100 ≤ p.a) && decide (p.a ≤ 100) && decide (-100 ≤ p.b) && decide (p.b ≤ 100)) = true → OkP c := fun c h p hp => by
    rw [List.all_eq_true] at h
    have := h p hp
    simp only [Bool.and_eq_true, decide_eq_true_eq] at this
    exact ⟨⟨by omega, by omega⟩, ⟨by omega, by omega⟩⟩
  have le1 : ∀ es : List (List PV), PV.leL [.agg [.vec (diN.map S1) false, .vec (diU.map U1) false], .vec es true] [.agg [.vec (diN.map S1) false, .vec (diU.map U1) false], .vec es false] := fun es => ⟨PV.le_refl _, ⟨nofun, PV.leLL_refl _⟩, trivial⟩
  have h11a := c14 Γ hΓ diN diU di_w64 exC (by decide) (okc _ (by kernel_rfl))
  have h11b := c14 Γ hΓ diN diU di_w64 [⟨-4, 0⟩, ⟨0, -2⟩] (by decide) (okc _ (by kernel_rfl))
  have h11c := c14 Γ hΓ diN diU di_w64 [⟨-10, 0⟩] (by decide) (okc _ (by kernel_rfl))
  rw [ex_least] at h11a
  rw [ex_none] at h11b
  rw [ex_strange] at h11c
  have h11a := h11a.args (le1 _)
  have h11b := h11b.args (le1 _)
  have h11c := h11c.args (le1 _)
  have h21a : Gives Tryz.prog Γ 47 [.int .i64 1] (.int .i64 (-2)) := c47 Γ 1 ⟨by decide, by decide⟩
  have h21b : Gives Tryz.prog Γ 47 [.int .i64 2] (.int .i64 (-3)) := c47 Γ 2 ⟨by decide, by decide⟩
  have h21c : Gives Tryz.prog Γ 47 [.int .i64 9] (.int .i64 (-10)) := c47 Γ 9 ⟨by decide, by decide⟩
  have h16 : Gives Tryz.prog Γ 49 [.agg [.vec (diN.map S1) false, .vec (diU.map U1) false]] (.int .i64 (-4)) := c49 Γ hΓ diN diU di_w64 3 (by kernel_rfl) (by decide)
  have h14a := c19 Γ hΓ diN diU di_w64 [⟨0, 1⟩, ⟨1, 2⟩, ⟨2, 3⟩] 2 ⟨by decide, by decide⟩
  have h14b := c19 Γ hΓ diN diU di_w64 [⟨0, 1⟩, ⟨1, 2⟩, ⟨2, 3⟩] 7 ⟨by decide, by decide⟩
  have h14c := c19 Γ hΓ diN diU di_w64 [⟨0, 1⟩, ⟨1, 2⟩, ⟨2, 3⟩] (-2) ⟨by decide, by decide⟩
  have h14d := c19 Γ hΓ diN diU di_w64 [⟨0, 1⟩, ⟨1, 2⟩, ⟨2, 3⟩] (-10) ⟨by decide, by decide⟩
  rw [show valueV diN diU [⟨0, 1⟩, ⟨1, 2⟩, ⟨2, 3⟩] 2 = 3 by kernel_rfl] at h14a
  rw [show valueV diN diU [⟨0, 1⟩, ⟨1, 2⟩, ⟨2, 3⟩] 7 = 0 by kernel_rfl] at h14b
  rw [show valueV diN diU [⟨0, 1⟩, ⟨1, 2⟩, ⟨2, 3⟩] (-2) = 1 by kernel_rfl] at h14c
  rw [show valueV diN diU [⟨0, 1⟩, ⟨1, 2⟩, ⟨2, 3⟩] (-10) = -1 by kernel_rfl] at h14d
  have h12a := c21 Γ hΓ diN diU di_w64 [⟨0, 2⟩] (by decide) (okc _ (by kernel_rfl)) [⟨0, 1⟩, ⟨1, 2⟩, ⟨2, 3⟩]
  have h12b := c21 Γ hΓ diN diU di_w64 [⟨2, 0⟩] (by decide) (okc _ (by kernel_rfl)) [⟨0, 1⟩, ⟨1, 2⟩, ⟨2, 3⟩]
  have h22 := c17 Γ hΓ diN diU di_w64 [] (by decide) (okc _ (by kernel_rfl))
  rw [di_solves (b := true) (di_known (by kernel_rfl)) (by kernel_rfl)] at h12a
  rw [di_solves (b := false) (di_known (by kernel_rfl)) (by kernel_rfl)] at h12b
  rw [di_known (by kernel_rfl)] at h22
  have le2 : ∀ (es : List (List PV)) (x : PV), PV.leL [.agg [.vec (diN.map S1) false, .vec (diU.map U1) false], .vec es true, x] [.agg [.vec (diN.map S1) false, .vec (diU.map U1) false], .vec es false, x] := fun es x => ⟨PV.le_refl _, ⟨nofun, PV.leLL_refl _⟩, PV.le_refl _, trivial⟩
  have h12a := h12a.args (le2 _ _)
  have h12b := h12b.args (le2 _ _)
  have h22 := h22.args (le1 _)
  refine fn_of_awp Tryz.func11 rfl (by simp [Tryz.f11]) rfl fun H => ?_
  refine awp_seq ?_
  refine awp_run rfl (by simp only [fwA, seval] <;> rfl) ?_
  refine awp_seq ?_
  refine awp_region rfl ?_
  refine aops_fn rfl rfl rfl en48 h9 ?_
  refine aops_run 4 (by simp only [fwA, seval, gfw, bx, dx, bitfw, hget, hlen] <;> rfl) ?_
  refine aops_end ?_
  refine awp_seq ?_
  refine awp_region rfl ?_
  refine aops_fn rfl rfl rfl en47 h21a ?_
  refine aops_run 1 (by simp only [fwA, seval, gfw, bx, dx, bitfw] <;> rfl) ?_
  refine aops_end ?_
  refine awp_seq ?_
  refine awp_region rfl ?_
  refine aops_fn rfl rfl rfl en47 h21b ?_
  refine aops_run 1 (by simp only [fwA, seval, gfw, bx, dx, bitfw] <;> rfl) ?_
  refine aops_end ?_
  refine awp_seq ?_
  refine awp_region rfl ?_
  refine aops_run 8 (by simp only [fwA, seval, gfw, bx, dx, bitfw] <;> rfl) ?_
  refine aops_fn rfl rfl rfl en14 h11a ?_
  refine aops_run 5 (by simp only [fwA, seval, gfw, bx, dx, bitfw] <;> rfl) ?_
  refine aops_end ?_
  refine awp_seq ?_
  refine awp_drawn [1, 1, 0, 0, 0, 0, 0, 0, 0, 0, 0, 0, 0] [0, 0, 2, 6, 0, 16, 62, 127, 255, 511, 511, 1023, 4095] mixed rfl (by kernel_rfl) ?_
  refine dops_run 2 (by simp only [fwA, seval, gfw, bx, dx, bitfw] <;> rfl) ?_
  refine dops_fn rfl (by simp only [fwA, seval] <;> rfl) rfl rfl en49 h16 ?_
  refine dops_run 4 (by simp only [fwA, seval, gfw, bx, dx, bitfw] <;> rfl) ?_
  refine dops_fn rfl (by simp only [fwA, seval] <;> rfl) rfl rfl en14 h11b ?_
  refine dops_run 5 (by simp only [fwA, seval, gfw, bx, dx, bitfw] <;> rfl) ?_
  refine dops_end ?_
  refine awp_seq ?_
  refine awp_drawn [1, 0, 0, 0, 0, 0, 0, 0, 0, 0] [0, 0, 2, 6, 15, 31, 63, 63, 127, 511] mixed rfl (by kernel_rfl) ?_
  refine dops_run 1 (by simp only [fwA, seval, gfw, bx, dx, bitfw] <;> rfl) ?_
  refine dops_fn rfl (by simp only [fwA, seval] <;> rfl) rfl rfl en47 h21c ?_
  refine dops_run 2 (by simp only [fwA, seval, gfw, bx, dx, bitfw] <;> rfl) ?_
  refine dops_fn rfl (by simp only [fwA, seval] <;> rfl) rfl rfl en14 h11c ?_
  refine dops_run 5 (by simp only [fwA, seval, gfw, bx, dx, bitfw] <;> rfl) ?_
  refine dops_end ?_
  refine awp_seq ?_
  refine awp_seq ?_
  refine awp_run rfl (by simp only [fwA, seval, gfw, bx, dx, bitfw, leastEnc] <;> rfl) ?_
  refine awp_cond (b := false) (by simp [alook, aput, ev]) (awp_skip ?_)
  refine awp_seq ?_
  refine awp_drawn [0, 0, 0, 0, 0, 0, 0, 0, 0, 0, 0, 0, 0, 1, 0, 0, 0, 0, 0, 0, 1, 0, 0, 0, 0, 0, 0, 1, 0, 0, 0, 1, 0, 0, 0, 0, 0, 1, 0, 0, 0, 0, 0, 1, 0, 0, 0, 0, 0, 0, 1, 0, 0, 0, 0, 0, 0, 1, 0, 0, 0, 0, 0, 0, 1, 0, 0, 0, 0, 0, 0, 0, 1, 0, 0, 0] [0, 1, 3, 7, 15, 31, 63, 127, 255, 511, 1023, 2047, 4095, 8191, 16383, 32767, 65535, 131071, 262143, 524287, 1048575, 2097151, 4194303, 8388607, 16777215, 33554431, 67108863, 134217727, 268435455, 536870911, 1073741823, 2147483647, 2147483647, 8589934591, 17179869183, 34359738367, 68719476735, 137438953471, 137438953471, 549755813887, 1099511627775, 2199023255551, 4398046511103, 8796093022207, 8796093022207, 8796093022207, 70368744177663, 140737488355327, 281474976710655, 562949953421311, 1125899906842623, 1125899906842623, 1125899906842623, 9007199254740991, 18014398509481983, 36028797018963967, 72057594037927935, 144115188075855871, 144115188075855871, 432345564227567615, 144115188075855871, 2305843009213693951, 4611686018427387903, 9223372036854775807, 18446744073709551615, 18446744073709551615, 55340232221128654847, 18446744073709551615, 295147905179352825855, 590295810358705651711, 1180591620717411303423, 2361183241434822606847, 4722366482869645213695, 9444732965739290427391, 18889465931478580854783, 37778931862957161709567] mixed rfl (by kernel_rfl) ?_
  refine dops_run 13 (by simp only [fwA, seval, gfw, bx, dx, bitfw] <;> rfl) ?_
  refine dops_run 13 (by simp only [fwA, seval, gfw, bx, dx, bitfw] <;> rfl) ?_
  refine dops_run 7 (by simp only [fwA, seval, gfw, bx, dx, bitfw] <;> rfl) ?_
  refine dops_fn rfl (by simp only [fwA, seval] <;> rfl) rfl rfl en19 h14a ?_
  refine dops_run 5 (by simp only [fwA, seval, gfw, bx, dx, bitfw] <;> rfl) ?_
  refine dops_fn rfl (by simp only [fwA, seval] <;> rfl) rfl rfl en19 h14b ?_
  refine dops_run 6 (by simp only [fwA, seval, gfw, bx, dx, bitfw] <;> rfl) ?_
  refine dops_fn rfl (by simp only [fwA, seval] <;> rfl) rfl rfl en19 h14c ?_
  refine dops_run 5 (by simp only [fwA, seval, gfw, bx, dx, bitfw] <;> rfl) ?_
  refine dops_fn rfl (by simp only [fwA, seval] <;> rfl) rfl rfl en47 h21c ?_
  refine dops_fn rfl (by simp only [fwA, seval] <;> rfl) rfl rfl en19 h14d ?_
  refine dops_run 7 (by simp only [fwA, seval, gfw, bx, dx, bitfw] <;> rfl) ?_
  refine dops_fn rfl (by simp only [fwA, seval] <;> rfl) rfl rfl en21 h12a ?_
  refine dops_run 6 (by simp only [fwA, seval, gfw, bx, dx, bitfw] <;> rfl) ?_
  refine dops_fn rfl (by simp only [fwA, seval] <;> rfl) rfl rfl en21 h12b ?_
  refine dops_run 4 (by simp only [fwA, seval, gfw, bx, dx, bitfw] <;> rfl) ?_
  refine dops_fn rfl (by simp only [fwA, seval] <;> rfl) rfl rfl en17 h22 ?_
  refine dops_run 2 (by simp only [fwA, seval, gfw, bx, dx, bitfw] <;> rfl) ?_
  refine dops_end ?_
  refine awp_ret ?_
  exact gives_end (.inl rfl) _ rfl
end Go.Proofs.YteicbhkimepbaaaGreatDoor
