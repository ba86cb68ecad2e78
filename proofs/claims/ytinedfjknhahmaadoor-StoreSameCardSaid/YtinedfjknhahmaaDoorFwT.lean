/- The framework, twentieth part: what the runs are rewritten by. -/
import Derived.Test.YtinedfjknhahmaaDoorFwS
namespace Go.Proofs.YtinedfjknhahmaaDoor.Fw
set_option linter.unusedVariables false
set_option linter.unusedSimpArgs false
open Go.RowKit

theorem fw0 :
    (∀ (P : Program) (Γ : Nat → PV) (ops : Array Oper) (A : List (Nat × PV)) (H : List Blk), arun P Γ ops [] A H = some (A, H)) ∧
    (∀ (P : Program) (Γ : Nat → PV) (ops : Array Oper) (A : List (Nat × PV)) (H : List Blk) (d : Option Tmp) (op : Op) (t : TypeId) (p : String) (a : Array Edge) (rest : List Oper), arun P Γ ops (⟨d, op, t, p, a, none⟩ :: rest) A H = (match step1 P Γ A H op with | some (q, H1) => arun P Γ ops rest (aput A d q) H1 | none => none)) ∧
    (∀ (P : Program) (Γ : Nat → PV) (ops : Array Oper) (A : List (Nat × PV)) (H : List Blk) (d : Option Tmp) (op : Op) (t : TypeId) (p : String) (a : Array Edge) (rest : List Oper) (j : Nat) (want : Bool), arun P Γ ops (⟨d, op, t, p, a, some (j, want)⟩ :: rest) A H = (match (ops[j]?).bind (·.dst) with
      | some d' => match alook A d' with
        | .bool b => if b = want then (match step1 P Γ A H op with
            | some (q, H1) => arun P Γ ops rest (aput A d q) H1
            | none => none) else arun P Γ ops rest (aput A d (.tup [])) H
        | .tup [] => arun P Γ ops rest (aput A d (.tup [])) H
        | _ => none
      | none => none)) ∧
    (∀ (P : Program) (Γ : Nat → PV) (ops : Array Oper) (cls : List Nat) (n0 : Nat) (A : List (Nat × PV)) (H : List Blk), drun P Γ ops cls n0 [] A H = some (A, H)) ∧
    (∀ (P : Program) (Γ : Nat → PV) (ops : Array Oper) (cls : List Nat) (n0 : Nat) (A : List (Nat × PV)) (H : List Blk) (i : Nat) (d : Option Tmp) (op : Op) (t : TypeId) (p : String) (a : Array Edge) (gd : Option (Nat × Bool)) (rest : List (Nat × Oper)), drun P Γ ops cls n0 ((i, ⟨d, op, t, p, a, gd⟩) :: rest) A H = (match wantA ops A ⟨d, op, t, p, a, gd⟩ with
    | some false => drun P Γ ops cls n0 rest (aput A d (.tup [])) H
    | some true => match cls.getD i 0 with
      | 0 => match step1 P Γ A [] op with
        | some (q, []) => drun P Γ ops cls n0 rest (aput A d q) H
        | _ => none
      | 1 => match op with
        | .load t x => match step1 P Γ A H (.load t x) with
          | some (q, _) => drun P Γ ops cls n0 rest (aput A d q) H
          | none => none
        | _ => none
      | 2 => match step1 P Γ A H op with
        | some (q, H1) => drun P Γ ops cls n0 rest (aput A d q) H1
        | none => none
      | 4 => match op with
        | .load t x => match step1 P Γ A (H.take n0) (.load t x) with
          | some (q, _) => drun P Γ ops cls n0 rest (aput A d q) H
          | none => none
        | _ => none
      | _ => none
    | none => none)) ∧
    (∀ (ops : Array Oper) (A : List (Nat × PV)) (d : Option Tmp) (op : Op) (t : TypeId) (p : String) (a : Array Edge), wantA ops A ⟨d, op, t, p, a, none⟩ = some true) ∧
    (∀ (ops : Array Oper) (A : List (Nat × PV)) (d : Option Tmp) (op : Op) (t : TypeId) (p : String) (a : Array Edge) (j : Nat) (want : Bool), wantA ops A ⟨d, op, t, p, a, some (j, want)⟩ = (match (ops[j]?).bind (·.dst) with | some d => (match alook A d with | .bool b => some (b == want) | .tup [] => some false | _ => none) | none => none)) ∧
    (∀ (P : Program) (Γ : Nat → PV) (A : List (Nat × PV)) (H : List Blk) (x : Operand), step1 P Γ A H (.move x) = some (ev Γ A x, H)) ∧
    (∀ (P : Program) (Γ : Nat → PV) (A : List (Nat × PV)) (H : List Blk) (x : Operand), step1 P Γ A H (.assign x) = some (ev Γ A x, H)) ∧
    (∀ (P : Program) (Γ : Nat → PV) (A : List (Nat × PV)) (H : List Blk) (c x y : Operand), step1 P Γ A H (.pick c x y) = (match ev Γ A c with | .bool b => some (if b = true then ev Γ A x else ev Γ A y, H) | _ => none)) ∧
    (∀ (P : Program) (Γ : Nat → PV) (A : List (Nat × PV)) (H : List Blk) (t : TypeId), step1 P Γ A H (.alloc t) = (match tiOf P t with | some ti => some (.ptr H.length 0, H ++ [.box ti.zero]) | none => none)) ∧
    (∀ (P : Program) (Γ : Nat → PV) (A : List (Nat × PV)) (H : List Blk) (t : TypeId) (x : Operand), step1 P Γ A H (.box t x) = (if (ev Γ A x).shaped = true then some (.ptr H.length 0, H ++ [.box (ev Γ A x).cells]) else none)) ∧
    (∀ (P : Program) (Γ : Nat → PV) (A : List (Nat × PV)) (H : List Blk) (t : TypeId) (x : Operand), step1 P Γ A H (.load t x) = (match rd Γ A H x, tiOf P t with
    | some cs, some ti => if ti.agg = true then (if ti.size ≤ cs.length then some (.agg (cs.take ti.size), H) else none) else (match cs[0]? with | some p => some (p, H) | none => none)
    | _, _ => none)) ∧
    (∀ (P : Program) (Γ : Nat → PV) (A : List (Nat × PV)) (H : List Blk) (t : TypeId) (x y : Operand), step1 P Γ A H (.store t x y) = (match ev Γ A x, tiOf P t with
    | .ptr b q, some ti => match boxAt H b with
      | some cs => if (ev Γ A y).shaped = true ∧ (ev Γ A y).cells.length = ti.size ∧ q + ti.size ≤ cs.length then some (.any, H.set b (.box (splice cs q (ev Γ A y).cells))) else none
      | none => none
    | _, _ => none)) ∧
    (∀ (P : Program) (Γ : Nat → PV) (A : List (Nat × PV)) (H : List Blk) (s : TypeId) (x : Operand) (f : Nat), step1 P Γ A H (.fieldAddr s x f) = (match fldOf P s f with | some (off, _, _) => (match shift (ev Γ A x) off with | some p => some (p, H) | none => none) | none => none)) ∧
    (∀ (P : Program) (Γ : Nat → PV) (A : List (Nat × PV)) (H : List Blk) (s : TypeId) (x : Operand) (f : Nat), step1 P Γ A H (.field s x f) = (match fldOf P s f, ev Γ A x with
    | some (off, size, ag), .agg cs => if ag = true then (if off + size ≤ cs.length then some (.agg ((cs.drop off).take size), H) else none) else (match cs[off]? with | some p => some (p, H) | none => none)
    | _, _ => none)) ∧
    (∀ (P : Program) (Γ : Nat → PV) (A : List (Nat × PV)) (H : List Blk) (op : BinOp) (t : TypeId) (x y : Operand) (u : TypeId), step1 P Γ A H (.binOp op t x y u) = (match ev Γ A x, ev Γ A y with
    | .bool b, .bool c => match P.underlying t, eqv op (b == c) with
      | some .bool, some p => some (p, H)
      | _, _ => none
    | .agg xs, .agg ys => match eqOf P t with
      | some l => match aeqs l xs ys with
        | some b => match eqv op b with
          | some r => some (r, H)
          | none => none
        | none => none
      | none => none
    | p, q => match abin op p q with
      | some r => some (r, H)
      | none => match nilStep P op t p y with
        | some r => some (r, H)
        | none => none)) ∧
    (∀ (P : Program) (Γ : Nat → PV) (A : List (Nat × PV)) (H : List Blk) (t : TypeId) (x : Operand), step1 P Γ A H (.unOp .not t x) = (match ev Γ A x with | .bool b => some (.bool !b, H) | _ => none)) ∧
    (∀ (P : Program) (Γ : Nat → PV) (A : List (Nat × PV)) (H : List Blk) (t : TypeId) (x : Operand), step1 P Γ A H (.unOp .neg t x) = (match ev Γ A x with | .int k n => some (.int k (k.wrap (0 - n)), H) | _ => none)) ∧
    (∀ (P : Program) (Γ : Nat → PV) (A : List (Nat × PV)) (H : List Blk) (s t : TypeId) (x : Operand), step1 P Γ A H (.convert s t x) = (match P.underlying s, P.underlying t, ev Γ A x with
    | some _, some (.int k'), .int _ n => some (.int k' (k'.wrap n), H)
    | some _, some .string, .str u => some (.str u, H)
    | _, _, _ => none)) ∧
    (∀ (P : Program) (Γ : Nat → PV) (A : List (Nat × PV)) (H : List Blk) (x : Operand) (i : Nat), step1 P Γ A H (.extract x i) = (match ev Γ A x with | .tup ps => (match ps[i]? with | some p => some (p, H) | none => none) | _ => none)) ∧
    (∀ (P : Program) (Γ : Nat → PV) (A : List (Nat × PV)) (H : List Blk) (fn : Go.Fn) (fs cs : Array Operand), step1 P Γ A H (.makeFunc fn fs cs) = some (.func fn (fs.toList.map (ev Γ A)) (cs.toList.map (ev Γ A)), H)) ∧
    (∀ (P : Program) (Γ : Nat → PV) (A : List (Nat × PV)) (H : List Blk) (t : TypeId) (x : Operand), step1 P Γ A H (.makeInterface t x) = (match P.underlying t with | some (.interface _) => none | some _ => some (.iface t (ev Γ A x), H) | none => none)) ∧
    (∀ (P : Program) (Γ : Nat → PV) (A : List (Nat × PV)) (H : List Blk) (t : TypeId) (parts : Array (Nat × Operand)), step1 P Γ A H (.build t parts) = (match tiOf P t, plOf P t with
    | some ti, some pl => match abuild (fun i => pl[i]?) ti.zero (parts.toList.map fun x => (x.1, ev Γ A x.2)) with
      | some cs => some (.agg cs, H)
      | none => none
    | _, _ => none)) ∧
    (∀ (P : Program) (Γ : Nat → PV) (A : List (Nat × PV)) (H : List Blk) (t : TypeId) (len : Nat) (parts : Array (Nat × Operand)), step1 P Γ A H (.buildSlice t len parts) = (match P.underlying t with
    | some (.slice e) => match tiOf P e with
      | some ti => if 0 < ti.size ∧ len * ti.size ≤ 16777216 then
          (match abuild (fun i => some (i * ti.size, ti.size)) (List.replicate (len * ti.size) .any) (parts.toList.map fun x => (x.1, ev Γ A x.2)) with
          | some cs => if PV.plainL cs = true then some (.vec (chunk ti.size len cs) true, H) else none
          | none => none) else none
      | none => none
    | _ => none)) ∧
    (∀ (P : Program) (Γ : Nat → PV) (A : List (Nat × PV)) (H : List Blk) (t : TypeId) (x i : Operand), step1 P Γ A H (.indexAddr t x i) = (match elOf P t, ev Γ A x, ev Γ A i with
    | some (sz, _), .vec es _, .int _ n => match es[n.toNat]? with
      | some e => if 0 ≤ n ∧ e.length = sz then some (.cptr e, H) else none
      | none => none
    | _, _, _ => none)) ∧
    (∀ (P : Program) (Γ : Nat → PV) (A : List (Nat × PV)) (H : List Blk) (t : TypeId) (x i : Operand), step1 P Γ A H (.index t x i) = (match P.underlying t, ev Γ A x, ev Γ A i with
    | some .string, .str s, .int _ n => match s[n.toNat]? with
      | some c => if 0 ≤ n then some (.int .u8 c.toNat, H) else none
      | none => none
    | _, _, _ => none)) ∧
    (∀ (P : Program) (Γ : Nat → PV) (A : List (Nat × PV)) (H : List Blk) (x : Operand) (t : TypeId), step1 P Γ A H (.call { callee := .builtin .len, args := ⟨[x]⟩, argTypes := ⟨[t]⟩ }) = (match P.underlying t, ev Γ A x with
      | some .string, .str s => some (.int .i64 s.length, H)
      | some (.slice _), .vec es _ => some (.int .i64 es.length, H)
      | some (.slice _), .row _ _ k _ => some (.int .i64 k, H)
      | _, _ => none)) ∧
    (∀ (Γ : Nat → PV) (A : List (Nat × PV)) (t : Nat), ev Γ A (.tmp t) = alook A t) ∧
    (∀ (Γ : Nat → PV) (A : List (Nat × PV)) (v : Value), ev Γ A (.const v) = ofC v) ∧
    (∀ (Γ : Nat → PV) (A : List (Nat × PV)) (x : Nat), ev Γ A (.global x) = Γ x) ∧
    (∀ (Γ : Nat → PV) (A : List (Nat × PV)) (f : Nat), ev Γ A (.func f) = .func (.func f) [] []) ∧
    (∀ (b : Bool), ofC (.bool b) = .bool b) ∧
    (∀ (k : IntKind) (n : Int), ofC (.int k n) = .int k n) ∧
    (∀ (l : List UInt8), ofC (.string ⟨⟨l⟩⟩) = (if l.length ≤ 9223372036854775807 then .str l else .any)) ∧
    (∀ (x : UInt8) (l : List UInt8), (x :: l).length = l.length + 1) ∧
    (([] : List UInt8).length = 0) ∧
    (ofC (.pointer none) = .nilp) ∧
    (ofC (.map none) = .nilm) ∧
    (ofC .nilFunc = .nilf) := by
  refine ⟨?_, ?_, ?_, ?_, ?_, ?_, ?_, ?_, ?_, ?_, ?_, ?_, ?_, ?_, ?_, ?_, ?_, ?_, ?_, ?_, ?_, ?_, ?_, ?_, ?_, ?_, ?_, ?_, ?_, ?_, ?_, ?_, ?_, ?_, ?_, ?_, ?_, ?_, ?_, ?_⟩
  all_goals first | rfl | (intros; rfl) | (intros; simp [abin]; done) | (intros; simp [keyEq]; done) | (intros; simp [peq]; done) | (intros; simp; done) | (intros; exact get_at0 _ _) | (intros; exact get_at _ _ _) | (intros; exact set_at0 _ _ _) | (intros; exact set_at _ _ _ _) | (intros; exact take_at _ _ _) | (intro b; cases b <;> rfl) | (intro op; cases op <;> intros <;> rfl)

theorem fw1 :
    (ofC .nilIface = .nili) ∧
    (ofC (.slice none 0 0) = .vec [] true) ∧
    (∀ (k : Nat) (p : PV) (l : List (Nat × PV)) (t : Nat), alook ((k, p) :: l) t = (if t = k then p else alook l t)) ∧
    (∀ (A : List (Nat × PV)) (d : Tmp) (p : PV), aput A (some d) p = (d, p) :: A) ∧
    (∀ (A : List (Nat × PV)) (p : PV), aput A none p = A) ∧
    (∀ (k : Nat), initA k [] = []) ∧
    (∀ (k : Nat) (p : PV) (ps : List PV), initA k (p :: ps) = (k, p) :: initA (k + 1) ps) ∧
    (∀ (Γ : Nat → PV) (A : List (Nat × PV)) (H : List Blk) (x : Operand), rd Γ A H x = (match ev Γ A x with
  | .cptr cs => some cs
  | .ptr b o => match H[b]? with
    | some (.box cs) => some (cs.drop o)
    | _ => none
  | .eptr b o len => match H[b]? with
    | some (.row _ cs) => if cs.length = len then some (cs.drop o) else none
    | _ => none
  | _ => none)) ∧
    (∀ (H : List Blk) (b : Nat), boxAt H b = (match H[b]? with | some (.box cs) => some cs | _ => none)) ∧
    (∀ (b q n : Nat), shift (.ptr b q) n = some (.ptr b (q + n))) ∧
    (∀ (cs : List PV) (n : Nat), shift (.cptr cs) n = some (.cptr (cs.drop n))) ∧
    (∀ (b q l n : Nat), shift (.eptr b q l) n = some (.eptr b (q + n) l)) ∧
    (∀ (b : Bool), PV.shaped (.bool b) = true) ∧
    (∀ (b : Bool), PV.cells (.bool b) = [.bool b]) ∧
    (∀ (k : IntKind) (n : Int), PV.shaped (.int k n) = true) ∧
    (∀ (k : IntKind) (n : Int), PV.cells (.int k n) = [.int k n]) ∧
    (∀ (s : List UInt8), PV.shaped (.str s) = true) ∧
    (∀ (s : List UInt8), PV.cells (.str s) = [.str s]) ∧
    (∀ (es : List (List PV)) (f : Bool), PV.shaped (.vec es f) = true) ∧
    (∀ (es : List (List PV)) (f : Bool), PV.cells (.vec es f) = [.vec es f]) ∧
    (∀ (b o k sz : Nat), PV.shaped (.row b o k sz) = true) ∧
    (∀ (b o k sz : Nat), PV.cells (.row b o k sz) = [.row b o k sz]) ∧
    (∀ (b o : Nat), PV.shaped (.ptr b o) = true) ∧
    (∀ (b o : Nat), PV.cells (.ptr b o) = [.ptr b o]) ∧
    (∀ (cs : List PV), PV.shaped (.cptr cs) = true) ∧
    (∀ (cs : List PV), PV.cells (.cptr cs) = [.cptr cs]) ∧
    (∀ (fn : Go.Fn) (fs cs : List PV), PV.shaped (.func fn fs cs) = true) ∧
    (∀ (fn : Go.Fn) (fs cs : List PV), PV.cells (.func fn fs cs) = [.func fn fs cs]) ∧
    (∀ (t : Nat) (v : PV), PV.shaped (.iface t v) = true) ∧
    (∀ (t : Nat) (v : PV), PV.cells (.iface t v) = [.iface t v]) ∧
    (∀ (b : Nat), PV.shaped (.map b) = true) ∧
    (∀ (b : Nat), PV.cells (.map b) = [.map b]) ∧
    (PV.shaped (.nilp) = true) ∧
    (PV.cells (.nilp) = [.nilp]) ∧
    (PV.shaped (.nilm) = true) ∧
    (PV.cells (.nilm) = [.nilm]) ∧
    (PV.shaped (.nilf) = true) ∧
    (PV.cells (.nilf) = [.nilf]) ∧
    (PV.shaped (.nili) = true) ∧
    (PV.cells (.nili) = [.nili]) := by
  refine ⟨?_, ?_, ?_, ?_, ?_, ?_, ?_, ?_, ?_, ?_, ?_, ?_, ?_, ?_, ?_, ?_, ?_, ?_, ?_, ?_, ?_, ?_, ?_, ?_, ?_, ?_, ?_, ?_, ?_, ?_, ?_, ?_, ?_, ?_, ?_, ?_, ?_, ?_, ?_, ?_⟩
  all_goals first | rfl | (intros; rfl) | (intros; simp [abin]; done) | (intros; simp [keyEq]; done) | (intros; simp [peq]; done) | (intros; simp; done) | (intros; exact get_at0 _ _) | (intros; exact get_at _ _ _) | (intros; exact set_at0 _ _ _) | (intros; exact set_at _ _ _ _) | (intros; exact take_at _ _ _) | (intro b; cases b <;> rfl) | (intro op; cases op <;> intros <;> rfl)

theorem fw2 :
    (∀ (cs : List PV), PV.shaped (.agg cs) = true) ∧
    (∀ (cs : List PV), PV.cells (.agg cs) = cs) ∧
    (∀ (cs : List PV) (q : Nat) (xs : List PV), splice cs q xs = cs.take q ++ xs ++ cs.drop (q + xs.length)) ∧
    (∀ (b : Bool), eqv .eql b = some (.bool b)) ∧
    (∀ (b : Bool), eqv .neq b = some (.bool !b)) ∧
    (∀ (pl : Nat → Option (Nat × Nat)) (cs : List PV), abuild pl cs [] = some cs) ∧
    (∀ (pl : Nat → Option (Nat × Nat)) (cs : List PV) (i : Nat) (p : PV) (l : List (Nat × PV)), abuild pl cs ((i, p) :: l) = (match pl i with | none => none | some (off, size) => if p.shaped = true ∧ p.cells.length = size ∧ off + size ≤ cs.length then abuild pl (splice cs off p.cells) l else none)) ∧
    (∀ (sz : Nat) (cs : List PV), chunk sz 0 cs = []) ∧
    (∀ (sz n : Nat) (cs : List PV), chunk sz (n + 1) cs = cs.take sz :: chunk sz n (cs.drop sz)) ∧
    (∀ (m : Nat) (b : Bool), PV.bd m (.bool b) = true) ∧
    (∀ (m : Nat) (k : IntKind) (n : Int), PV.bd m (.int k n) = true) ∧
    (∀ (m : Nat) (s : List UInt8), PV.bd m (.str s) = true) ∧
    (∀ (m : Nat) (es : List (List PV)) (f : Bool), PV.bd m (.vec es f) = true) ∧
    (∀ (m : Nat) (b o k sz : Nat), PV.bd m (.row b o k sz) = decide (b < m)) ∧
    (∀ (m : Nat) (b o : Nat), PV.bd m (.ptr b o) = decide (b < m)) ∧
    (∀ (m : Nat) (cs : List PV), PV.bd m (.cptr cs) = true) ∧
    (∀ (m : Nat) (fn : Go.Fn) (fs cs : List PV), PV.bd m (.func fn fs cs) = (PV.bdL m fs && PV.bdL m cs)) ∧
    (∀ (m : Nat) (t : Nat) (v : PV), PV.bd m (.iface t v) = v.bd m) ∧
    (∀ (m : Nat) (b : Nat), PV.bd m (.map b) = decide (b < m)) ∧
    (∀ (m : Nat) , PV.bd m (.nilp) = true) ∧
    (∀ (m : Nat) , PV.bd m (.nilm) = true) ∧
    (∀ (m : Nat) , PV.bd m (.nilf) = true) ∧
    (∀ (m : Nat) , PV.bd m (.nili) = true) ∧
    (∀ (m : Nat) (cs : List PV), PV.bd m (.agg cs) = PV.bdL m cs) ∧
    (∀ (m : Nat) (cs : List PV), PV.bd m (.tup cs) = PV.bdL m cs) ∧
    (∀ (m : Nat), PV.bd m .any = true) ∧
    (∀ (m : Nat), PV.bdL m [] = true) ∧
    (∀ (m : Nat) (p : PV) (ps : List PV), PV.bdL m (p :: ps) = (p.bd m && PV.bdL m ps)) ∧
    (∀ (x : PV) (l : List PV), (x :: l)[0]? = some x) ∧
    (∀ (x : PV) (l : List PV) (n : Nat), (x :: l)[n + 1]? = l[n]?) ∧
    (∀ (x : PV) (l : List PV), (x :: l).take 0 = []) ∧
    (∀ (x : PV) (l : List PV) (n : Nat), (x :: l).take (n + 1) = x :: l.take n) ∧
    (∀ (l : List PV), l.drop 0 = l) ∧
    (∀ (x : PV) (l : List PV) (n : Nat), (x :: l).drop (n + 1) = l.drop n) ∧
    (∀ (n : Nat), ([] : List PV).take n = []) ∧
    (∀ (n : Nat), ([] : List PV).drop n = []) ∧
    (∀ (x : PV) (l : List PV), (x :: l).length = l.length + 1) ∧
    (([] : List PV).length = 0) ∧
    (∀ (x : PV) (l k : List PV), (x :: l) ++ k = x :: (l ++ k)) ∧
    (∀ (l : List PV), [] ++ l = l) := by
  refine ⟨?_, ?_, ?_, ?_, ?_, ?_, ?_, ?_, ?_, ?_, ?_, ?_, ?_, ?_, ?_, ?_, ?_, ?_, ?_, ?_, ?_, ?_, ?_, ?_, ?_, ?_, ?_, ?_, ?_, ?_, ?_, ?_, ?_, ?_, ?_, ?_, ?_, ?_, ?_, ?_⟩
  all_goals first | rfl | (intros; rfl) | (intros; simp [abin]; done) | (intros; simp [keyEq]; done) | (intros; simp [peq]; done) | (intros; simp; done) | (intros; exact get_at0 _ _) | (intros; exact get_at _ _ _) | (intros; exact set_at0 _ _ _) | (intros; exact set_at _ _ _ _) | (intros; exact take_at _ _ _) | (intro b; cases b <;> rfl) | (intro op; cases op <;> intros <;> rfl)

theorem fw3 :
    (∀ (l : List PV), l ++ [] = l) ∧
    (∀ (l k m : List PV), (l ++ k) ++ m = l ++ (k ++ m)) ∧
    (∀ (l k : List PV), (l ++ k).length = l.length + k.length) ∧
    (∀ (x : Blk) (l : List Blk), (x :: l)[0]? = some x) ∧
    (∀ (x : Blk) (l : List Blk) (n : Nat), (x :: l)[n + 1]? = l[n]?) ∧
    (∀ (x : Blk) (l : List Blk), (x :: l).take 0 = []) ∧
    (∀ (x : Blk) (l : List Blk) (n : Nat), (x :: l).take (n + 1) = x :: l.take n) ∧
    (∀ (l : List Blk), l.drop 0 = l) ∧
    (∀ (x : Blk) (l : List Blk) (n : Nat), (x :: l).drop (n + 1) = l.drop n) ∧
    (∀ (n : Nat), ([] : List Blk).take n = []) ∧
    (∀ (n : Nat), ([] : List Blk).drop n = []) ∧
    (∀ (x : Blk) (l : List Blk), (x :: l).length = l.length + 1) ∧
    (([] : List Blk).length = 0) ∧
    (∀ (x : Blk) (l k : List Blk), (x :: l) ++ k = x :: (l ++ k)) ∧
    (∀ (l : List Blk), [] ++ l = l) ∧
    (∀ (l : List Blk), l ++ [] = l) ∧
    (∀ (l k m : List Blk), (l ++ k) ++ m = l ++ (k ++ m)) ∧
    (∀ (l k : List Blk), (l ++ k).length = l.length + k.length) ∧
    (∀ (x : Oper) (l : List Oper), (x :: l)[0]? = some x) ∧
    (∀ (x : Oper) (l : List Oper) (n : Nat), (x :: l)[n + 1]? = l[n]?) ∧
    (∀ (x : Oper) (l : List Oper), (x :: l).take 0 = []) ∧
    (∀ (x : Oper) (l : List Oper) (n : Nat), (x :: l).take (n + 1) = x :: l.take n) ∧
    (∀ (l : List Oper), l.drop 0 = l) ∧
    (∀ (x : Oper) (l : List Oper) (n : Nat), (x :: l).drop (n + 1) = l.drop n) ∧
    (∀ (n : Nat), ([] : List Oper).take n = []) ∧
    (∀ (n : Nat), ([] : List Oper).drop n = []) ∧
    (∀ (x : Oper) (l : List Oper), (x :: l).length = l.length + 1) ∧
    (([] : List Oper).length = 0) ∧
    (∀ (x : Oper) (l k : List Oper), (x :: l) ++ k = x :: (l ++ k)) ∧
    (∀ (l : List Oper), [] ++ l = l) ∧
    (∀ (l : List Oper), l ++ [] = l) ∧
    (∀ (l k m : List Oper), (l ++ k) ++ m = l ++ (k ++ m)) ∧
    (∀ (l k : List Oper), (l ++ k).length = l.length + k.length) ∧
    (∀ (x : (List PV)) (l : List (List PV)), (x :: l)[0]? = some x) ∧
    (∀ (x : (List PV)) (l : List (List PV)) (n : Nat), (x :: l)[n + 1]? = l[n]?) ∧
    (∀ (x : (List PV)) (l : List (List PV)), (x :: l).take 0 = []) ∧
    (∀ (x : (List PV)) (l : List (List PV)) (n : Nat), (x :: l).take (n + 1) = x :: l.take n) ∧
    (∀ (l : List (List PV)), l.drop 0 = l) ∧
    (∀ (x : (List PV)) (l : List (List PV)) (n : Nat), (x :: l).drop (n + 1) = l.drop n) ∧
    (∀ (n : Nat), ([] : List (List PV)).take n = []) := by
  refine ⟨?_, ?_, ?_, ?_, ?_, ?_, ?_, ?_, ?_, ?_, ?_, ?_, ?_, ?_, ?_, ?_, ?_, ?_, ?_, ?_, ?_, ?_, ?_, ?_, ?_, ?_, ?_, ?_, ?_, ?_, ?_, ?_, ?_, ?_, ?_, ?_, ?_, ?_, ?_, ?_⟩
  all_goals first | rfl | (intros; rfl) | (intros; simp [abin]; done) | (intros; simp [keyEq]; done) | (intros; simp [peq]; done) | (intros; simp; done) | (intros; exact get_at0 _ _) | (intros; exact get_at _ _ _) | (intros; exact set_at0 _ _ _) | (intros; exact set_at _ _ _ _) | (intros; exact take_at _ _ _) | (intro b; cases b <;> rfl) | (intro op; cases op <;> intros <;> rfl)

theorem fw4 :
    (∀ (n : Nat), ([] : List (List PV)).drop n = []) ∧
    (∀ (x : (List PV)) (l : List (List PV)), (x :: l).length = l.length + 1) ∧
    (([] : List (List PV)).length = 0) ∧
    (∀ (x : (List PV)) (l k : List (List PV)), (x :: l) ++ k = x :: (l ++ k)) ∧
    (∀ (l : List (List PV)), [] ++ l = l) ∧
    (∀ (l : List (List PV)), l ++ [] = l) ∧
    (∀ (l k m : List (List PV)), (l ++ k) ++ m = l ++ (k ++ m)) ∧
    (∀ (l k : List (List PV)), (l ++ k).length = l.length + k.length) ∧
    (∀ (x : (Nat × Oper)) (l : List (Nat × Oper)), (x :: l)[0]? = some x) ∧
    (∀ (x : (Nat × Oper)) (l : List (Nat × Oper)) (n : Nat), (x :: l)[n + 1]? = l[n]?) ∧
    (∀ (x : (Nat × Oper)) (l : List (Nat × Oper)), (x :: l).take 0 = []) ∧
    (∀ (x : (Nat × Oper)) (l : List (Nat × Oper)) (n : Nat), (x :: l).take (n + 1) = x :: l.take n) ∧
    (∀ (l : List (Nat × Oper)), l.drop 0 = l) ∧
    (∀ (x : (Nat × Oper)) (l : List (Nat × Oper)) (n : Nat), (x :: l).drop (n + 1) = l.drop n) ∧
    (∀ (n : Nat), ([] : List (Nat × Oper)).take n = []) ∧
    (∀ (n : Nat), ([] : List (Nat × Oper)).drop n = []) ∧
    (∀ (x : (Nat × Oper)) (l : List (Nat × Oper)), (x :: l).length = l.length + 1) ∧
    (([] : List (Nat × Oper)).length = 0) ∧
    (∀ (x : (Nat × Oper)) (l k : List (Nat × Oper)), (x :: l) ++ k = x :: (l ++ k)) ∧
    (∀ (l : List (Nat × Oper)), [] ++ l = l) ∧
    (∀ (l : List (Nat × Oper)), l ++ [] = l) ∧
    (∀ (l k m : List (Nat × Oper)), (l ++ k) ++ m = l ++ (k ++ m)) ∧
    (∀ (l k : List (Nat × Oper)), (l ++ k).length = l.length + k.length) ∧
    (∀ (x : (Nat × Nat)) (l : List (Nat × Nat)), (x :: l)[0]? = some x) ∧
    (∀ (x : (Nat × Nat)) (l : List (Nat × Nat)) (n : Nat), (x :: l)[n + 1]? = l[n]?) ∧
    (∀ (x : (Nat × Nat)) (l : List (Nat × Nat)), (x :: l).take 0 = []) ∧
    (∀ (x : (Nat × Nat)) (l : List (Nat × Nat)) (n : Nat), (x :: l).take (n + 1) = x :: l.take n) ∧
    (∀ (l : List (Nat × Nat)), l.drop 0 = l) ∧
    (∀ (x : (Nat × Nat)) (l : List (Nat × Nat)) (n : Nat), (x :: l).drop (n + 1) = l.drop n) ∧
    (∀ (n : Nat), ([] : List (Nat × Nat)).take n = []) ∧
    (∀ (n : Nat), ([] : List (Nat × Nat)).drop n = []) ∧
    (∀ (x : (Nat × Nat)) (l : List (Nat × Nat)), (x :: l).length = l.length + 1) ∧
    (([] : List (Nat × Nat)).length = 0) ∧
    (∀ (x : (Nat × Nat)) (l k : List (Nat × Nat)), (x :: l) ++ k = x :: (l ++ k)) ∧
    (∀ (l : List (Nat × Nat)), [] ++ l = l) ∧
    (∀ (l : List (Nat × Nat)), l ++ [] = l) ∧
    (∀ (l k m : List (Nat × Nat)), (l ++ k) ++ m = l ++ (k ++ m)) ∧
    (∀ (l k : List (Nat × Nat)), (l ++ k).length = l.length + k.length) ∧
    (∀ (x y : Blk) (l : List Blk), (x :: l).set 0 y = y :: l) ∧
    (∀ (x y : Blk) (l : List Blk) (n : Nat), (x :: l).set (n + 1) y = x :: l.set n y) := by
  refine ⟨?_, ?_, ?_, ?_, ?_, ?_, ?_, ?_, ?_, ?_, ?_, ?_, ?_, ?_, ?_, ?_, ?_, ?_, ?_, ?_, ?_, ?_, ?_, ?_, ?_, ?_, ?_, ?_, ?_, ?_, ?_, ?_, ?_, ?_, ?_, ?_, ?_, ?_, ?_, ?_⟩
  all_goals first | rfl | (intros; rfl) | (intros; simp [abin]; done) | (intros; simp [keyEq]; done) | (intros; simp [peq]; done) | (intros; simp; done) | (intros; exact get_at0 _ _) | (intros; exact get_at _ _ _) | (intros; exact set_at0 _ _ _) | (intros; exact set_at _ _ _ _) | (intros; exact take_at _ _ _) | (intro b; cases b <;> rfl) | (intro op; cases op <;> intros <;> rfl)

theorem fw5 :
    (∀ (x y : PV) (l : List PV), (x :: l).set 0 y = y :: l) ∧
    (∀ (x y : PV) (l : List PV) (n : Nat), (x :: l).set (n + 1) y = x :: l.set n y) ∧
    (∀ (l : List Oper) (n : Nat), (⟨l⟩ : Array Oper)[n]? = l[n]?) ∧
    (∀ (x : Nat) (l : List Nat) (n : Nat), (x :: l).getD 0 n = x) ∧
    (∀ (x : Nat) (l : List Nat) (n m : Nat), (x :: l).getD (n + 1) m = l.getD n m) ∧
    (List.replicate 0 PV.any = []) ∧
    (∀ (n : Nat), List.replicate (n + 1) PV.any = .any :: List.replicate n .any) ∧
    (∀ (a : Oper) (l m : List Oper), List.append (a :: l) m = a :: List.append l m) ∧
    (∀ (m : List Oper), List.append [] m = m) ∧
    (∀ (ops : Array Oper), numbered ops = ops.toList.zipIdx.map fun x => (x.2, x.1)) ∧
    (∀ (o : Oper) (l : List Oper) (k : Nat), (o :: l).zipIdx k = (o, k) :: l.zipIdx (k + 1)) ∧
    (∀ (k : Nat), ([] : List Oper).zipIdx k = []) ∧
    (∀ (f : Oper × Nat → Nat × Oper) (x : Oper × Nat) (l : List (Oper × Nat)), (x :: l).map f = f x :: l.map f) ∧
    (∀ (f : Oper × Nat → Nat × Oper), ([] : List (Oper × Nat)).map f = []) ∧
    (∀ (f : Operand → PV) (x : Operand) (l : List Operand), (x :: l).map f = f x :: l.map f) ∧
    (∀ (f : Operand → PV), ([] : List Operand).map f = []) ∧
    (∀ (f : Nat × Operand → Nat × PV) (x : Nat × Operand) (l : List (Nat × Operand)), (x :: l).map f = f x :: l.map f) ∧
    (∀ (f : Nat × Operand → Nat × PV), ([] : List (Nat × Operand)).map f = []) ∧
    (∀ (f : Nat → PV) (x : Nat) (l : List Nat), (x :: l).map f = f x :: l.map f) ∧
    (∀ (f : Nat → PV), ([] : List Nat).map f = []) ∧
    (∀ (x : Nat) (l : List Nat) (p : PV) (ps : List PV), (x :: l).zip (p :: ps) = (x, p) :: l.zip ps) ∧
    (∀ (ps : List PV), ([] : List Nat).zip ps = []) ∧
    (∀ (f : Oper → Option Nat) (o : Oper), (some o).bind f = f o) ∧
    (∀ (H L : List Blk), (H ++ L)[H.length]? = L[0]?) ∧
    (∀ (H L : List Blk) (k : Nat), (H ++ L)[H.length + k]? = L[k]?) ∧
    (∀ (H L : List Blk) (B : Blk), (H ++ L).set H.length B = H ++ L.set 0 B) ∧
    (∀ (H L : List Blk) (k : Nat) (B : Blk), (H ++ L).set (H.length + k) B = H ++ L.set k B) ∧
    (∀ (n : Nat), n + 0 = n) ∧
    (∀ (n : Nat), 0 + n = n) ∧
    (∀ (b : Bool), (true == b) = b) ∧
    ((false == true) = false) ∧
    ((false == false) = true) ∧
    (∀ (n : Nat), (n : Int).toNat = n) ∧
    (∀ (k : IntKind) (a b : Int), abin .add (.int k a) (.int k b) = some (.int k (k.wrap (a + b)))) ∧
    (∀ (k : IntKind) (a b : Int), abin .sub (.int k a) (.int k b) = some (.int k (k.wrap (a - b)))) ∧
    (∀ (k : IntKind) (a b : Int), abin .mul (.int k a) (.int k b) = some (.int k (k.wrap (a * b)))) ∧
    (∀ (k : IntKind) (a b : Int), abin .eql (.int k a) (.int k b) = some (.bool (decide (a = b)))) ∧
    (∀ (k : IntKind) (a b : Int), abin .neq (.int k a) (.int k b) = some (.bool (!decide (a = b)))) ∧
    (∀ (k : IntKind) (a b : Int), abin .lss (.int k a) (.int k b) = some (.bool (decide (a < b)))) ∧
    (∀ (k : IntKind) (a b : Int), abin .leq (.int k a) (.int k b) = some (.bool (decide (a ≤ b)))) := by
  refine ⟨?_, ?_, ?_, ?_, ?_, ?_, ?_, ?_, ?_, ?_, ?_, ?_, ?_, ?_, ?_, ?_, ?_, ?_, ?_, ?_, ?_, ?_, ?_, ?_, ?_, ?_, ?_, ?_, ?_, ?_, ?_, ?_, ?_, ?_, ?_, ?_, ?_, ?_, ?_, ?_⟩
  all_goals first | rfl | (intros; rfl) | (intros; simp [abin]; done) | (intros; simp [keyEq]; done) | (intros; simp [peq]; done) | (intros; simp; done) | (intros; exact get_at0 _ _) | (intros; exact get_at _ _ _) | (intros; exact set_at0 _ _ _) | (intros; exact set_at _ _ _ _) | (intros; exact take_at _ _ _) | (intro b; cases b <;> rfl) | (intro op; cases op <;> intros <;> rfl)

theorem fw6 :
    (∀ (k : IntKind) (a b : Int), abin .gtr (.int k a) (.int k b) = some (.bool (decide (b < a)))) ∧
    (∀ (k : IntKind) (a b : Int), abin .geq (.int k a) (.int k b) = some (.bool (decide (b ≤ a)))) ∧
    (∀ (a b : List UInt8), abin .eql (.str a) (.str b) = some (.bool (decide (a = b)))) ∧
    (∀ (a b : List UInt8), abin .neq (.str a) (.str b) = some (.bool (!decide (a = b)))) ∧
    (∀ (a b : List UInt8), abin .lss (.str a) (.str b) = some (.bool (Op.bytesLess a b))) ∧
    (∀ (a b : List UInt8), abin .leq (.str a) (.str b) = some (.bool (Op.bytesLess a b || decide (a = b)))) ∧
    (∀ (a b : List UInt8), abin .gtr (.str a) (.str b) = some (.bool !(Op.bytesLess a b || decide (a = b)))) ∧
    (∀ (a b : List UInt8), abin .geq (.str a) (.str b) = some (.bool !(Op.bytesLess a b))) ∧
    (∀ (a b : List UInt8), abin .add (.str a) (.str b) = (if a.length + b.length ≤ 9223372036854775807 then some (.str (a ++ b)) else none)) ∧
    (∀ (k : IntKind) (a b : Int), abin .quo (.int k a) (.int k b) = (if k = k ∧ b ≠ 0 then some (.int k (k.wrap (a.tdiv b))) else none)) ∧
    (∀ (k : IntKind) (a b : Int), abin .rem (.int k a) (.int k b) = (if k = k ∧ b ≠ 0 then some (.int k (a.tmod b)) else none)) ∧
    (∀ (P : Program) (op : BinOp) (t : TypeId) (p : PV) (c : Value), nilStep P op t p (.const c) = (match P.underlying t with | some d => if nilOf d c = true then (match isNil d p with | some b => eqv op b | none => none) else none | none => none)) ∧
    (∀ (e : Nat), nilOf (.pointer e) (.pointer none) = true) ∧
    (∀ (e : Nat), isNil (.pointer e) .nilp = some true) ∧
    (∀ (e : Nat) (b o : Nat), isNil (.pointer e) (.ptr b o) = some false) ∧
    (∀ (e : Nat) (cs : List PV), isNil (.pointer e) (.cptr cs) = some false) ∧
    (∀ (e f : Nat), nilOf (.map e f) (.map none) = true) ∧
    (∀ (e f : Nat), isNil (.map e f) .nilm = some true) ∧
    (∀ (e f : Nat) (b : Nat), isNil (.map e f) (.map b) = some false) ∧
    (∀ (e f : Array Nat) (g : Bool), nilOf (.func e f g) .nilFunc = true) ∧
    (∀ (e f : Array Nat) (g : Bool), isNil (.func e f g) .nilf = some true) ∧
    (∀ (e f : Array Nat) (g : Bool) (fn : Go.Fn) (fs cs : List PV), isNil (.func e f g) (.func fn fs cs) = some false) ∧
    (∀ (e : Array (String × Nat)), nilOf (.interface e) .nilIface = true) ∧
    (∀ (e : Array (String × Nat)), isNil (.interface e) .nili = some true) ∧
    (∀ (e : Array (String × Nat)) (t : Nat) (p : PV), isNil (.interface e) (.iface t p) = some false) ∧
    (∀ (op : BinOp) (fn : Go.Fn) (fs cs : List PV), abin op (.func fn fs cs) .nilf = none) ∧
    (∀ (op : BinOp), abin op .nilf .nilf = none) ∧
    (∀ (op : BinOp) (b o : Nat), abin op (.ptr b o) .nilp = none) ∧
    (∀ (op : BinOp), abin op .nilp .nilp = none) ∧
    (∀ (op : BinOp) (cs : List PV), abin op (.cptr cs) .nilp = none) ∧
    (∀ (op : BinOp) (b : Nat), abin op (.map b) .nilm = none) ∧
    (∀ (op : BinOp), abin op .nilm .nilm = none) ∧
    (∀ (op : BinOp) (t : Nat) (p : PV), abin op (.iface t p) .nili = none) ∧
    (∀ (op : BinOp), abin op .nili .nili = none) ∧
    (∀ (xs ys : List PV), aeqs [] xs ys = some true) ∧
    (∀ (o k : Nat) (l : List (Nat × Nat)) (xs ys : List PV), aeqs ((o, k) :: l) xs ys = (match xs[o]?, ys[o]? with | some p, some q => (match peq k p q, aeqs l xs ys with | some b, some r => some (b && r) | _, _ => none) | _, _ => none)) ∧
    (∀ (k : IntKind) (a b : Int), peq 0 (.int k a) (.int k b) = some (decide (a = b))) ∧
    (∀ (a b : List UInt8), peq 1 (.str a) (.str b) = some (decide (a = b))) ∧
    (∀ (a b : Bool), peq 2 (.bool a) (.bool b) = some (a == b)) ∧
    (∀ (b sz : Nat) (C cs : List PV), frzB b sz C (.box cs) = .box (cs.map (frz b sz C))) := by
  refine ⟨?_, ?_, ?_, ?_, ?_, ?_, ?_, ?_, ?_, ?_, ?_, ?_, ?_, ?_, ?_, ?_, ?_, ?_, ?_, ?_, ?_, ?_, ?_, ?_, ?_, ?_, ?_, ?_, ?_, ?_, ?_, ?_, ?_, ?_, ?_, ?_, ?_, ?_, ?_, ?_⟩
  all_goals first | rfl | (intros; rfl) | (intros; simp [abin]; done) | (intros; simp [keyEq]; done) | (intros; simp [peq]; done) | (intros; simp; done) | (intros; exact get_at0 _ _) | (intros; exact get_at _ _ _) | (intros; exact set_at0 _ _ _) | (intros; exact set_at _ _ _ _) | (intros; exact take_at _ _ _) | (intro b; cases b <;> rfl) | (intro op; cases op <;> intros <;> rfl)

theorem fw7 :
    (∀ (b sz : Nat) (C : List PV), frzB b sz C .dead = .dead) ∧
    (∀ (b sz z : Nat) (C cs : List PV), frzB b sz C (.row z cs) = .row z cs) ∧
    (∀ (b b2 q k sz z : Nat) (C : List PV), frz b sz C (.row b2 q k z) = (if b2 = b ∧ z = sz ∧ C.length = q + k * sz then .vec (chunk sz k (C.drop q)) false else .row b2 q k z)) ∧
    (∀ (bb ss : Nat) (C : List PV) (b : Bool), frz bb ss C (.bool b) = .bool b) ∧
    (∀ (bb ss : Nat) (C : List PV) (k : IntKind) (n : Int), frz bb ss C (.int k n) = .int k n) ∧
    (∀ (bb ss : Nat) (C : List PV) (s : List UInt8), frz bb ss C (.str s) = .str s) ∧
    (∀ (bb ss : Nat) (C : List PV) (es : List (List PV)) (f : Bool), frz bb ss C (.vec es f) = .vec es f) ∧
    (∀ (bb ss : Nat) (C : List PV) (b o : Nat), frz bb ss C (.ptr b o) = .ptr b o) ∧
    (∀ (bb ss : Nat) (C : List PV) (cs : List PV), frz bb ss C (.cptr cs) = .cptr cs) ∧
    (∀ (bb ss : Nat) (C : List PV) (fn : Go.Fn) (fs cs : List PV), frz bb ss C (.func fn fs cs) = .func fn fs cs) ∧
    (∀ (bb ss : Nat) (C : List PV) (t : Nat) (v : PV), frz bb ss C (.iface t v) = .iface t v) ∧
    (∀ (bb ss : Nat) (C : List PV) (b : Nat), frz bb ss C (.map b) = .map b) ∧
    (∀ (bb ss : Nat) (C : List PV) , frz bb ss C (.nilp) = .nilp) ∧
    (∀ (bb ss : Nat) (C : List PV) , frz bb ss C (.nilm) = .nilm) ∧
    (∀ (bb ss : Nat) (C : List PV) , frz bb ss C (.nilf) = .nilf) ∧
    (∀ (bb ss : Nat) (C : List PV) , frz bb ss C (.nili) = .nili) ∧
    (∀ (bb ss : Nat) (C : List PV) (cs : List PV), frz bb ss C (.agg cs) = .agg cs) ∧
    (∀ (bb ss : Nat) (C : List PV) , frz bb ss C (.any) = .any) ∧
    (∀ (f : PV → PV) (x : PV) (l : List PV), (x :: l).map f = f x :: l.map f) ∧
    (∀ (f : PV → PV), ([] : List PV).map f = []) ∧
    (∀ (f : Blk → Blk) (x : Blk) (l : List Blk), (x :: l).map f = f x :: l.map f) ∧
    (∀ (f : Blk → Blk), ([] : List Blk).map f = []) ∧
    (∀ (f : Nat × PV → Nat × PV) (x : Nat × PV) (l : List (Nat × PV)), (x :: l).map f = f x :: l.map f) ∧
    (∀ (f : Nat × PV → Nat × PV), ([] : List (Nat × PV)).map f = []) ∧
    (∀ (es : List (PV × PV)) (k q : PV), mput es k q none = es ++ [(k, q)]) ∧
    (∀ (es : List (PV × PV)) (k q p : PV) (j : Nat), mput es k q (some (j, p)) = es.set j (k, q)) ∧
    (∀ (z : PV), gotOr none z = z) ∧
    (∀ (z q : PV) (j : Nat), gotOr (some (j, q)) z = q) ∧
    (∀ (k : PV) (i : Nat), mfind k [] i = some none) ∧
    (∀ (k p q : PV) (es : List (PV × PV)) (i : Nat), mfind k ((p, q) :: es) i = (match keyEq k p with | some true => some (some (i, q)) | some false => mfind k es (i + 1) | none => none)) ∧
    (∀ (a b : List UInt8), keyEq (.str a) (.str b) = some (decide (a = b))) ∧
    (∀ (k : IntKind) (a b : Int), keyEq (.int k a) (.int k b) = some (decide (a = b))) ∧
    (∀ (x : PV × PV) (l k : List (PV × PV)), (x :: l) ++ k = x :: (l ++ k)) ∧
    (∀ (l : List (PV × PV)), [] ++ l = l) ∧
    (∀ (H L : List Blk) (k : Nat), (H ++ L).take (H.length + k) = H ++ L.take k) ∧
    (∀ (H L : List Blk), (H ++ L).take H.length = H) ∧
    (∀ (H : List Blk), H.take H.length = H) := by
  refine ⟨?_, ?_, ?_, ?_, ?_, ?_, ?_, ?_, ?_, ?_, ?_, ?_, ?_, ?_, ?_, ?_, ?_, ?_, ?_, ?_, ?_, ?_, ?_, ?_, ?_, ?_, ?_, ?_, ?_, ?_, ?_, ?_, ?_, ?_, ?_, ?_, ?_⟩
  all_goals first | rfl | (intros; rfl) | (intros; simp [abin]; done) | (intros; simp [keyEq]; done) | (intros; simp [peq]; done) | (intros; simp; done) | (intros; exact get_at0 _ _) | (intros; exact get_at _ _ _) | (intros; exact set_at0 _ _ _) | (intros; exact set_at _ _ _ _) | (intros; exact take_at _ _ _) | (intro b; cases b <;> rfl) | (intro op; cases op <;> intros <;> rfl)

end Go.Proofs.YtinedfjknhahmaaDoor.Fw
