/- The framework, first part: values without addresses, what a value of the machine stands for, what is kept of a world. -/
import Derived.WalkKit
import Derived.RangeFuncLeaves
import Derived.Deep.AppendSrc
import Derived.Deep.Upon
import Derived.RangeFuncRecord
import Derived.Laws.StructEq
import Derived.MapKept
namespace Go.Proofs.YtddnigahjahkbaaGreatDoor.Fw
set_option linter.unusedVariables false
set_option linter.unusedSimpArgs false
set_option maxRecDepth 100000
open Go.RowKit
inductive PV where
  | any
  | bool (b : Bool)
  | int (k : IntKind) (n : Int)
  | str (s : List UInt8)
  | nilp | nilm | nilf | nili
  | cptr (cs : List PV)
  | ptr (b o : Nat)
  | eptr (b o len : Nat)
  | vec (es : List (List PV)) (full : Bool)
  | row (b o k sz : Nat)
  | map (b : Nat)
  | yld (b : Nat)
  | func (fn : Fn) (first cap : List PV)
  | iface (t : TypeId) (v : PV)
  | agg (cs : List PV)
  | tup (vs : List PV)
  deriving Inhabited
inductive Blk where
  | box (cs : List PV)
  | row (sz : Nat) (cs : List PV)
  | map (es : List (PV × PV))
  | loop (l : Loop) (cs : List PV)
  | dfr
  | dead
structure Info where
  blk : Nat
  len : Nat
  size : Nat
  sub : Nat
  isRow : Bool
structure Ghost where
  M : Addr → Option Value
  info : Nat → Info
inductive Rep (G : Ghost) : Nat → PV → Value → Prop
  | any (n : Nat) (v : Value) : Rep G n .any v
  | bool (n : Nat) (b : Bool) : Rep G n (.bool b) (.bool b)
  | int (n : Nat) (k : IntKind) (i : Int) : Rep G n (.int k i) (.int k i)
  | str (n : Nat) (s : List UInt8) (hn : s.length ≤ 9223372036854775807) : Rep G n (.str s) (.string ⟨s.toArray⟩)
  | nilp (n : Nat) : Rep G n .nilp (.pointer none)
  | nilm (n : Nat) : Rep G n .nilm (.map none)
  | nilf (n : Nat) : Rep G n .nilf .nilFunc
  | nili (n : Nat) : Rep G n .nili .nilIface
  | cptr (n : Nat) (cs : List PV) (b o : Nat) (vs : Nat → Value) (h1 : ∀ (i : Nat) c, cs[i]? = some c → G.M ⟨b, o + i, none⟩ = some (vs i))
      (h2 : ∀ (i : Nat) c, cs[i]? = some c → Rep G 0 c (vs i)) (h3 : ∀ (i : Nat) c, cs[i]? = some c → (vs i).oneCell' = true) : Rep G n (.cptr cs) (.pointer (some ⟨b, o, none⟩))
  | vec0 (n : Nat) (f : Bool) (a : Option Addr) : Rep G n (.vec [] f) (.slice a 0 0)
  | vec (n : Nat) (es : List (List PV)) (f : Bool) (b o sz cap : Nat) (vs : Nat → Value) (hn : es.length ≤ 9223372036854775807) (hc : es.length ≤ cap) (hf : f = true → cap = es.length)
      (hs : ∀ e, e ∈ es → e.length = sz)
      (h1 : ∀ (i j : Nat) e c, es[i]? = some e → e[j]? = some c → G.M ⟨b, o + (i * sz + j), none⟩ = some (vs (i * sz + j)))
      (h2 : ∀ (i j : Nat) e c, es[i]? = some e → e[j]? = some c → Rep G 0 c (vs (i * sz + j)))
      (h3 : ∀ (i j : Nat) e c, es[i]? = some e → e[j]? = some c → (vs (i * sz + j)).oneCell' = true) : Rep G n (.vec es f) (.slice (some ⟨b, o, none⟩) es.length cap)
  | ptr (n b o : Nat) (hb : b < n) (hr : (G.info b).isRow = false) : Rep G n (.ptr b o) (.pointer (some ⟨(G.info b).blk, o, none⟩))
  | eptr (n b o len : Nat) (a : Addr) (hb : b < n) (hr : (G.info b).isRow = true) (hl : len ≤ (G.info b).len)
      (ha : (G.info b).len = len → (G.info b).sub ≤ o ∧ a = ⟨(G.info b).blk, o - (G.info b).sub, none⟩) : Rep G n (.eptr b o len) (.pointer (some a))
  | row (n b o k sz : Nat) (a : Option Addr) (cap : Nat) (hn : k ≤ 9223372036854775807) (hb : b < n) (hr : (G.info b).isRow = true) (hl : o + k * sz ≤ (G.info b).len)
      (ha : (G.info b).len = o + k * sz → k ≤ cap ∧ (((G.info b).sub ≤ o ∧ a = some ⟨(G.info b).blk, o - (G.info b).sub, none⟩ ∧ (o - (G.info b).sub) + cap * sz = (G.info b).size) ∨ (k = 0 ∧ cap = 0))) : Rep G n (.row b o k sz) (.slice a k cap)
  | map (n b : Nat) (hb : b < n) (hr : (G.info b).isRow = false) : Rep G n (.map b) (.map (some (G.info b).blk))
  | yld (n b : Nat) (hb : b < n) (hr : (G.info b).isRow = false) : Rep G n (.yld b) (.func (.yield (G.info b).blk) #[] #[])
  | func (n : Nat) (fn : Fn) (fs cs : List PV) (fs' cs' : Array Value) (h1 : fs.length = fs'.size) (h2 : cs.length = cs'.size)
      (h3 : ∀ (i : Nat) c v, fs[i]? = some c → fs'[i]? = some v → Rep G n c v) (h4 : ∀ (i : Nat) c v, cs[i]? = some c → cs'[i]? = some v → Rep G n c v) : Rep G n (.func fn fs cs) (.func fn fs' cs')
  | iface (n : Nat) (t : TypeId) (p : PV) (v : Value) (h : Rep G n p v) : Rep G n (.iface t p) (.iface t v)
  | agg (n : Nat) (cs : List PV) (vs : Array Value) (h1 : cs.length = vs.size) (h2 : ∀ (i : Nat) c v, cs[i]? = some c → vs[i]? = some v → Rep G n c v)
      (h3 : ∀ (i : Nat) v, vs[i]? = some v → v.oneCell' = true) : Rep G n (.agg cs) (.agg vs)
  | tup (n : Nat) (cs : List PV) (vs : Array Value) (h1 : cs.length = vs.size) (h2 : ∀ (i : Nat) c v, cs[i]? = some c → vs[i]? = some v → Rep G n c v) : Rep G n (.tup cs) (.tuple vs)
structure Evol (G : Ghost) (n : Nat) (G' : Ghost) : Prop where
  mem : ∀ a v, G.M a = some v → G'.M a = some v
  info : ∀ b, b < n → G'.info b = G.info b ∨ ((G.info b).isRow = true ∧ (G'.info b).isRow = true ∧ (G.info b).len < (G'.info b).len)
theorem Evol.refl (G : Ghost) (n : Nat) : Evol G n G := ⟨fun _ _ h => h, fun _ _ => .inl rfl⟩
theorem Evol.less {G G' : Ghost} {n m : Nat} (h : Evol G n G') (hm : m ≤ n) : Evol G m G' := ⟨h.mem, fun b hb => h.info b (Nat.lt_of_lt_of_le hb hm)⟩
theorem Evol.trans {G G' G'' : Ghost} {n m : Nat} (h : Evol G n G') (h' : Evol G' m G'') (hm : n ≤ m) : Evol G n G'' := by
  refine ⟨fun a v ha => h'.mem a v (h.mem a v ha), fun b hb => ?_⟩
  rcases h.info b hb with e | ⟨r, r', l⟩
  · rcases h'.info b (by omega) with e' | ⟨s, s', l'⟩
    · exact .inl (e'.trans e)
    · exact .inr ⟨e ▸ s, s', e ▸ l'⟩
  · rcases h'.info b (by omega) with e' | ⟨s, s', l'⟩
    · exact .inr ⟨r, e' ▸ r', e' ▸ l⟩
    · exact .inr ⟨r, s', Nat.lt_trans l l'⟩
theorem Rep.mono {G G' : Ghost} {n : Nat} {p : PV} {v : Value} (h : Rep G n p v) : ∀ m, Evol G n G' → n ≤ m → Rep G' m p v := by
  induction h with
  | any n v => exact fun m _ _ => .any m v
  | bool n b => exact fun m _ _ => .bool m b
  | int n k i => exact fun m _ _ => .int m k i
  | str n s hn => exact fun m _ _ => .str m s hn
  | nilp n => exact fun m _ _ => .nilp m
  | nilm n => exact fun m _ _ => .nilm m
  | nilf n => exact fun m _ _ => .nilf m
  | nili n => exact fun m _ _ => .nili m
  | cptr n cs b o vs h1 h2 h3 ih => exact fun m he hm => .cptr m cs b o vs (fun i c hc => he.mem _ _ (h1 i c hc)) (fun i c hc => ih i c hc 0 (he.less (Nat.zero_le _)) (Nat.le_refl _)) h3
  | vec0 n f a => exact fun m _ _ => .vec0 m f a
  | vec n es f b o sz cap vs hn hc hf hs h1 h2 h3 ih =>
    exact fun m he hm => .vec m es f b o sz cap vs hn hc hf hs (fun i j e c hi hj => he.mem _ _ (h1 i j e c hi hj)) (fun i j e c hi hj => ih i j e c hi hj 0 (he.less (Nat.zero_le _)) (Nat.le_refl _)) h3
  | ptr n b o hb hr =>
    intro m he hm
    rcases he.info b hb with e | ⟨r, _, _⟩
    · rw [← e]; exact .ptr m b o (by omega) (by rw [e]; exact hr)
    · rw [hr] at r; cases r
  | eptr n b o len a hb hr hl ha =>
    intro m he hm
    rcases he.info b hb with e | ⟨r, r', l⟩
    · exact .eptr m b o len a (by omega) (by rw [e]; exact hr) (by rw [e]; exact hl) (by rw [e]; exact ha)
    · exact .eptr m b o len a (by omega) r' (by omega) (fun h => by omega)
  | row n b o k sz a cap hn hb hr hl ha =>
    intro m he hm
    rcases he.info b hb with e | ⟨r, r', l⟩
    · exact .row m b o k sz a cap hn (by omega) (by rw [e]; exact hr) (by rw [e]; exact hl) (by rw [e]; exact ha)
    · exact .row m b o k sz a cap hn (by omega) r' (by omega) (fun h => by omega)
  | map n b hb hr =>
    intro m he hm
    rcases he.info b hb with e | ⟨r, _, _⟩
    · rw [← e]; exact .map m b (by omega) (by rw [e]; exact hr)
    · rw [hr] at r; cases r
  | yld n b hb hr =>
    intro m he hm
    rcases he.info b hb with e | ⟨r, _, _⟩
    · rw [← e]; exact .yld m b (by omega) (by rw [e]; exact hr)
    · rw [hr] at r; cases r
  | func n fn fs cs fs' cs' h1 h2 h3 h4 i3 i4 => exact fun m he hm => .func m fn fs cs fs' cs' h1 h2 (fun i c v a b => i3 i c v a b m he hm) (fun i c v a b => i4 i c v a b m he hm)
  | iface n t p v h ih => exact fun m he hm => .iface m t p v (ih m he hm)
  | agg n cs vs h1 h2 h3 ih => exact fun m he hm => .agg m cs vs h1 (fun i c v a b => ih i c v a b m he hm) h3
  | tup n cs vs h1 h2 ih => exact fun m he hm => .tup m cs vs h1 (fun i c v a b => ih i c v a b m he hm)
-- A value whose numbers of blocks are below m (what stands in an immutable row names none).
mutual
def PV.bd (m : Nat) : PV → Bool
  | .ptr b _ | .eptr b _ _ | .row b _ _ _ | .map b | .yld b => decide (b < m)
  | .func _ fs cs => PV.bdL m fs && PV.bdL m cs
  | .iface _ v => v.bd m
  | .agg cs => PV.bdL m cs
  | .tup vs => PV.bdL m vs
  | _ => true
def PV.bdL (m : Nat) : List PV → Bool
  | [] => true
  | p :: ps => p.bd m && PV.bdL m ps
end
abbrev PV.plain (p : PV) : Bool := p.bd 0
abbrev PV.plainL (ps : List PV) : Bool := PV.bdL 0 ps
theorem PV.bdL_iff {m : Nat} {ps : List PV} : PV.bdL m ps = true ↔ ∀ p ∈ ps, p.bd m = true := by
  induction ps with
  | nil => simp [PV.bdL]
  | cons p ps ih => simp [PV.bdL, ih]
theorem PV.bdL_at {m : Nat} {ps : List PV} {i : Nat} {p : PV} (h : PV.bdL m ps = true) (hi : ps[i]? = some p) : p.bd m = true :=
  PV.bdL_iff.1 h p (List.mem_of_getElem? hi)
theorem PV.bdL_append {m : Nat} {ps qs : List PV} : PV.bdL m (ps ++ qs) = (PV.bdL m ps && PV.bdL m qs) := by
  induction ps with
  | nil => simp [PV.bdL]
  | cons p ps ih => simp [PV.bdL, ih, Bool.and_assoc]
mutual
theorem PV.bd_mono {m n : Nat} (h : m ≤ n) : ∀ p : PV, p.bd m = true → p.bd n = true
  | .ptr b _, hp => by simp [PV.bd] at hp ⊢; omega
  | .eptr b _ _, hp => by simp [PV.bd] at hp ⊢; omega
  | .row b _ _ _, hp => by simp [PV.bd] at hp ⊢; omega
  | .map b, hp => by simp [PV.bd] at hp ⊢; omega
  | .yld b, hp => by simp [PV.bd] at hp ⊢; omega
  | .func _ fs cs, hp => by simp [PV.bd] at hp ⊢; exact ⟨PV.bdL_mono h fs hp.1, PV.bdL_mono h cs hp.2⟩
  | .iface _ v, hp => by simp [PV.bd] at hp ⊢; exact PV.bd_mono h v hp
  | .agg cs, hp => by simp [PV.bd] at hp ⊢; exact PV.bdL_mono h cs hp
  | .tup vs, hp => by simp [PV.bd] at hp ⊢; exact PV.bdL_mono h vs hp
  | .any, _ | .bool _, _ | .int _ _, _ | .str _, _ | .nilp, _ | .nilm, _ | .nilf, _ | .nili, _ | .cptr _, _ | .vec _ _, _ => by simp [PV.bd]
theorem PV.bdL_mono {m n : Nat} (h : m ≤ n) : ∀ ps : List PV, PV.bdL m ps = true → PV.bdL n ps = true
  | [], _ => rfl
  | p :: ps, hp => by simp [PV.bdL] at hp ⊢; exact ⟨PV.bd_mono h p hp.1, PV.bdL_mono h ps hp.2⟩
end
theorem Rep.cut {G : Ghost} {n : Nat} {p : PV} {v : Value} (h : Rep G n p v) : ∀ m, p.bd m = true → Rep G m p v := by
  induction h with
  | any n v => exact fun m _ => .any m v
  | bool n b => exact fun m _ => .bool m b
  | int n k i => exact fun m _ => .int m k i
  | str n s hn => exact fun m _ => .str m s hn
  | nilp n => exact fun m _ => .nilp m
  | nilm n => exact fun m _ => .nilm m
  | nilf n => exact fun m _ => .nilf m
  | nili n => exact fun m _ => .nili m
  | cptr n cs b o vs h1 h2 h3 _ => exact fun m _ => .cptr m cs b o vs h1 h2 h3
  | vec0 n f a => exact fun m _ => .vec0 m f a
  | vec n es f b o sz cap vs hn hc hf hs h1 h2 h3 _ => exact fun m _ => .vec m es f b o sz cap vs hn hc hf hs h1 h2 h3
  | ptr n b o hb hr => exact fun m h => .ptr m b o (by simpa [PV.bd] using h) hr
  | eptr n b o len a hb hr hl ha => exact fun m h => .eptr m b o len a (by simpa [PV.bd] using h) hr hl ha
  | row n b o k sz a cap hn hb hr hl ha => exact fun m h => .row m b o k sz a cap hn (by simpa [PV.bd] using h) hr hl ha
  | map n b hb hr => exact fun m h => .map m b (by simpa [PV.bd] using h) hr
  | yld n b hb hr => exact fun m h => .yld m b (by simpa [PV.bd] using h) hr
  | func n fn fs cs fs' cs' h1 h2 h3 h4 i3 i4 =>
    intro m hp
    simp [PV.bd] at hp
    exact .func m fn fs cs fs' cs' h1 h2 (fun i c v a b => i3 i c v a b m (PV.bdL_at hp.1 a)) (fun i c v a b => i4 i c v a b m (PV.bdL_at hp.2 a))
  | iface n t p v h ih => exact fun m hp => .iface m t p v (ih m (by simpa [PV.bd] using hp))
  | agg n cs vs h1 h2 h3 ih => exact fun m hp => .agg m cs vs h1 (fun i c v a b => ih i c v a b m (PV.bdL_at (by simpa [PV.bd] using hp) a)) h3
  | tup n cs vs h1 h2 ih => exact fun m hp => .tup m cs vs h1 (fun i c v a b => ih i c v a b m (PV.bdL_at (by simpa [PV.bd] using hp) a))
theorem Rep.pure {G : Ghost} {n : Nat} {p : PV} {v : Value} (h : Rep G n p v) (hp : p.plain = true) (m : Nat) : Rep G m p v :=
  ((h.cut 0 hp).mono m (Evol.refl G 0) (Nat.zero_le _))
theorem bdL_of {n : Nat} {ps : List PV} {vs : Array Value} (hl : ps.length = vs.size) (h : ∀ (i : Nat) c v, ps[i]? = some c → vs[i]? = some v → c.bd n = true) : PV.bdL n ps = true := by
  rw [PV.bdL_iff]
  intro p hp
  obtain ⟨i, hi, rfl⟩ := List.mem_iff_getElem.1 hp
  exact h i _ vs[i] (List.getElem?_eq_getElem hi) (Array.getElem?_eq_getElem (by omega))
theorem Rep.bound {G : Ghost} {n : Nat} {p : PV} {v : Value} (h : Rep G n p v) : p.bd n = true := by
  induction h with
  | ptr n b o hb hr => simpa [PV.bd] using hb
  | eptr n b o len a hb hr hl ha => simpa [PV.bd] using hb
  | row n b o k sz a cap hn hb hr hl ha => simpa [PV.bd] using hb
  | map n b hb hr => simpa [PV.bd] using hb
  | yld n b hb hr => simpa [PV.bd] using hb
  | func n fn fs cs fs' cs' h1 h2 h3 h4 i3 i4 => simp [PV.bd, bdL_of h1 i3, bdL_of h2 i4]
  | iface n t p v h ih => simpa [PV.bd] using ih
  | agg n cs vs h1 h2 h3 ih => simp [PV.bd, bdL_of h1 ih]
  | tup n cs vs h1 h2 ih => simp [PV.bd, bdL_of h1 ih]
  | _ => simp [PV.bd]
def Reps (G : Ghost) (n : Nat) (ps : List PV) (vs : List Value) : Prop := ps.length = vs.length ∧ ∀ (i : Nat) p v, ps[i]? = some p → vs[i]? = some v → Rep G n p v
theorem Reps.nil (G : Ghost) (n : Nat) : Reps G n [] [] := ⟨rfl, fun i p v h => by simp at h⟩
theorem Reps.cons {G : Ghost} {n : Nat} {p : PV} {v : Value} {ps : List PV} {vs : List Value} (h : Rep G n p v) (hs : Reps G n ps vs) : Reps G n (p :: ps) (v :: vs) :=
  ⟨by simp [hs.1], fun i q u hq hu => by
    cases i with
    | zero => simp at hq hu; subst hq; subst hu; exact h
    | succ i => simp at hq hu; exact hs.2 i q u hq hu⟩
theorem Reps.cons_inv {G : Ghost} {n : Nat} {p : PV} {ps : List PV} {us : List Value} (hs : Reps G n (p :: ps) us) : ∃ v vs, us = v :: vs ∧ Rep G n p v ∧ Reps G n ps vs := by
  cases us with
  | nil => exact absurd hs.1 (by simp)
  | cons v vs => exact ⟨v, vs, rfl, hs.2 0 p v rfl rfl, by have := hs.1; simpa using this, fun i q u hq hu => hs.2 (i + 1) q u (by simpa using hq) (by simpa using hu)⟩
theorem Reps.mono {G G' : Ghost} {n m : Nat} {ps : List PV} {vs : List Value} (h : Reps G n ps vs) (he : Evol G n G') (hm : n ≤ m) : Reps G' m ps vs :=
  ⟨h.1, fun i p v hp hv => (h.2 i p v hp hv).mono m he hm⟩
theorem Reps.cut {G : Ghost} {n : Nat} {ps : List PV} {vs : List Value} (h : Reps G n ps vs) {m : Nat} (hp : PV.bdL m ps = true) : Reps G m ps vs :=
  ⟨h.1, fun i p v hi hv => (h.2 i p v hi hv).cut m (PV.bdL_at hp hi)⟩
theorem Reps.bound {G : Ghost} {n : Nat} {ps : List PV} {vs : List Value} (h : Reps G n ps vs) : PV.bdL n ps = true := by
  rw [PV.bdL_iff]
  intro p hp
  obtain ⟨i, hi, rfl⟩ := List.mem_iff_getElem.1 hp
  exact (h.2 i _ (vs[i]'(by have := h.1; omega)) (List.getElem?_eq_getElem hi) (List.getElem?_eq_getElem (by have := h.1; omega))).bound
theorem Reps.append {G : Ghost} {n : Nat} {ps qs : List PV} {vs us : List Value} (h : Reps G n ps vs) (k : Reps G n qs us) : Reps G n (ps ++ qs) (vs ++ us) := by
  refine ⟨by simp [h.1, k.1], fun i p v hp hv => ?_⟩
  by_cases hi : i < ps.length
  · rw [List.getElem?_append_left hi] at hp
    rw [List.getElem?_append_left (by rw [← h.1]; exact hi)] at hv
    exact h.2 i p v hp hv
  · rw [List.getElem?_append_right (by omega)] at hp
    rw [List.getElem?_append_right (by rw [← h.1]; omega)] at hv
    exact k.2 _ p v hp (by rw [h.1]; exact hv)
def PV.cells : PV → List PV
  | .agg cs => cs
  | p => [p]
def PV.one : PV → Bool
  | .agg _ | .tup _ | .any => false
  | _ => true
theorem Rep.oneCell {G : Ghost} {n : Nat} {p : PV} {v : Value} (h : Rep G n p v) (hp : p.one = true) : v.oneCell' = true := by
  cases h <;> simp_all [PV.one, Value.oneCell']
theorem Rep.cells {G : Ghost} {n : Nat} {p : PV} {v : Value} (h : Rep G n p v) (hp : p.one = true ∨ ∃ cs, p = .agg cs) :
    Reps G n p.cells v.cells.toList ∧ ∀ (i : Nat) u, v.cells[i]? = some u → u.oneCell' = true := by
  rcases hp with hp | ⟨cs, rfl⟩
  · have ho := h.oneCell hp
    have hc : v.cells = #[v] := by cases v <;> simp_all [Value.cells, Value.oneCell']
    have hq : p.cells = [p] := by cases p <;> simp_all [PV.cells, PV.one]
    rw [hc, hq]
    refine ⟨.cons h (.nil _ _), fun i u hu => ?_⟩
    cases i with
    | zero => simp at hu; subst hu; exact ho
    | succ i => simp at hu
  · cases h with
    | agg _ _ vs h1 h2 h3 => exact ⟨⟨by simpa [PV.cells, Value.cells] using h1, fun i c v hc hv => h2 i c v hc (by simpa [Value.cells] using hv)⟩, h3⟩
def BlkOk (G : Ghost) (n : Nat) (w : World) (i : Info) : Blk → Prop
  | .box cs => i.isRow = false ∧ ∃ C e, w.heap[i.blk]? = some (.cells C e (0, 0)) ∧ Reps G n cs C.toList ∧ ∀ (j : Nat) u, C[j]? = some u → u.oneCell' = true
  | .row sz cs => i.isRow = true ∧ i.len = cs.length ∧ 0 < sz ∧ i.sub ≤ cs.length ∧ PV.bdL n cs = true ∧ ((i.size = 0 ∧ cs.length = i.sub) ∨
      (0 < i.size ∧ ∃ C e, w.heap[i.blk]? = some (.cells C e (0, 0)) ∧ C.size = i.size ∧ cs.length - i.sub ≤ C.size ∧ ∀ (j : Nat) c u, cs[i.sub + j]? = some c → C[j]? = some u → Rep G n c u ∧ u.oneCell' = true))
  | .map es => i.isRow = false ∧ ∃ E clock, w.heap[i.blk]? = some (.map E clock) ∧ E.size = es.length ∧ (∀ (j : Nat) p q x, es[j]? = some (p, q) → E[j]? = some x → Rep G n p x.key ∧ Rep G n q x.val) ∧
      (∀ (j : Nat) x, E[j]? = some x → x.born < clock) ∧ (∀ (j k : Nat) x y, E[j]? = some x → E[k]? = some y → x.born = y.born → j = k)
  | .loop l cs => i.isRow = false ∧ w.heap[i.blk]? = some (.loop l) ∧ Reps G n cs l.tmps.toList
  | .dfr => i.isRow = false ∧ w.heap[i.blk]? = some (.deferred (some []))
  | .dead => True
def Blk.live (i : Info) : Blk → Bool
  | .dead => false
  | .row _ _ => decide (0 < i.size)
  | _ => true
structure Sim (Γ : Nat → PV) (w0 : World) (G : Ghost) (H : List Blk) (w : World) : Prop where
  below : Below w0.heap.size w0 w
  mem : ∀ a v, G.M a = some v → w.cell? a = some v
  blk : ∀ (b : Nat) B, H[b]? = some B → BlkOk G H.length w (G.info b) B
  own : ∀ (b : Nat) B, H[b]? = some B → B.live (G.info b) = true → w0.heap.size ≤ (G.info b).blk ∧ (G.info b).blk < w.heap.size ∧ ∀ o s, G.M ⟨(G.info b).blk, o, s⟩ = none
  inj : ∀ (b b' : Nat) B B', H[b]? = some B → H[b']? = some B' → B.live (G.info b) = true → B'.live (G.info b') = true → (G.info b).blk = (G.info b').blk → b = b'
  glob : ∀ g, Rep G 0 (Γ g) (.pointer (some ⟨g, 0, none⟩))
  tab : ∀ g cs, Γ g = .cptr cs → ∃ C e q, w0.heap[g]? = some (.cells C e q) ∧ C.size = cs.length
end Go.Proofs.YtddnigahjahkbaaGreatDoor.Fw
namespace Go.Proofs.YtddnigahjahkbaaGreatDoor.Fw
set_option linter.unusedVariables false
set_option linter.unusedSimpArgs false
set_option maxRecDepth 100000
open Go.RowKit
theorem add_at (b o n : Nat) : (⟨b, o, none⟩ : Addr).add n = ⟨b, o + n, none⟩ := by
  unfold Addr.add
  split
  · rename_i h; subst h; rfl
  · rfl
theorem heap_new (w : World) (o : Obj) : (w.alloc o).heap[w.heap.size]? = some o := by
  show (w.heap.push o)[w.heap.size]? = some o
  exact Array.getElem?_push_size
theorem cell_of_heap {w w' : World} {a : Addr} (h : w'.heap[a.block]? = w.heap[a.block]?) : w'.cell? a = w.cell? a := by simp [World.cell?, h]
def Ghost.setInfo (G : Ghost) (b : Nat) (i : Info) : Ghost := { G with info := fun k => if k = b then i else G.info k }
def Ghost.keep (G : Ghost) (g k : Nat) (C : Array Value) : Ghost := { G with M := fun a => if a.block = g ∧ a.spot = none ∧ a.off < k then C[a.off]? else G.M a }
@[simp] theorem Ghost.setInfo_M (G : Ghost) (b : Nat) (i : Info) : (G.setInfo b i).M = G.M := rfl
@[simp] theorem Ghost.keep_info (G : Ghost) (g k : Nat) (C : Array Value) : (G.keep g k C).info = G.info := rfl
theorem Ghost.setInfo_same (G : Ghost) (b : Nat) (i : Info) : (G.setInfo b i).info b = i := by simp [Ghost.setInfo]
theorem Ghost.setInfo_other (G : Ghost) {b k : Nat} (i : Info) (h : k ≠ b) : (G.setInfo b i).info k = G.info k := by simp [Ghost.setInfo, h]
theorem Ghost.keep_at (G : Ghost) {g k o : Nat} {C : Array Value} (h : o < k) : (G.keep g k C).M ⟨g, o, none⟩ = C[o]? := by simp [Ghost.keep, h]
theorem Ghost.keep_other (G : Ghost) {g k b o : Nat} {s : Option Nat} {C : Array Value} (h : b ≠ g) : (G.keep g k C).M ⟨b, o, s⟩ = G.M ⟨b, o, s⟩ := by simp [Ghost.keep, h]
theorem Evol.setInfo_new (G : Ghost) (n : Nat) (i : Info) : Evol G n (G.setInfo n i) := ⟨fun _ _ h => h, fun b hb => .inl (G.setInfo_other i (by omega))⟩
theorem Evol.keep {G : Ghost} {g k : Nat} {C : Array Value} (n : Nat) (h : ∀ o s, G.M ⟨g, o, s⟩ = none) : Evol G n (G.keep g k C) := by
  refine ⟨fun a v ha => ?_, fun b _ => .inl rfl⟩
  obtain ⟨b, o, s⟩ := a
  by_cases hb : b = g
  · subst hb; rw [h] at ha; cases ha
  · rw [G.keep_other hb]; exact ha
def Blk.bd (m : Nat) : Blk → Bool
  | .box cs => PV.bdL m cs
  | .row _ cs => PV.bdL m cs
  | .map es => es.all fun e => e.1.bd m && e.2.bd m
  | .loop _ cs => PV.bdL m cs
  | _ => true
section
variable {Γ : Nat → PV} {w0 : World} {G G' : Ghost} {H : List Blk} {w w' : World} {n m b : Nat} {B B' : Blk} {i : Info}
theorem BlkOk.mono (h : BlkOk G n w i B) (he : Evol G n G') (hm : n ≤ m) (hw : B.live i = true → w'.heap[i.blk]? = w.heap[i.blk]?) : BlkOk G' m w' i B := by
  cases B with
  | box cs =>
    obtain ⟨h0, C, e, h1, h2, h3⟩ := h
    exact ⟨h0, C, e, (hw rfl).trans h1, h2.mono he hm, h3⟩
  | row sz cs =>
    obtain ⟨h0, h1, hs, hu, hbd, h2⟩ := h
    refine ⟨h0, h1, hs, hu, PV.bdL_mono hm _ hbd, ?_⟩
    rcases h2 with h2 | ⟨hp, C, e, h2, h3, h4, h5⟩
    · exact .inl h2
    · exact .inr ⟨hp, C, e, (hw (by simpa [Blk.live] using hp)).trans h2, h3, h4, fun j c u hc hu => ⟨(h5 j c u hc hu).1.mono m he hm, (h5 j c u hc hu).2⟩⟩
  | map es =>
    obtain ⟨h0, E, clock, h1, h2, h3, h4, h5⟩ := h
    exact ⟨h0, E, clock, (hw rfl).trans h1, h2, fun j p q x hj hx => ⟨(h3 j p q x hj hx).1.mono m he hm, (h3 j p q x hj hx).2.mono m he hm⟩, h4, h5⟩
  | loop l cs => exact ⟨h.1, (hw rfl).trans h.2.1, h.2.2.mono he hm⟩
  | dfr => exact ⟨h.1, (hw rfl).trans h.2⟩
  | dead => trivial
theorem BlkOk.cut (h : BlkOk G n w i B) (hb : B.bd m = true) : BlkOk G m w i B := by
  cases B with
  | box cs =>
    obtain ⟨h0, C, e, h1, h2, h3⟩ := h
    exact ⟨h0, C, e, h1, h2.cut (by simpa [Blk.bd] using hb), h3⟩
  | row sz cs =>
    obtain ⟨h0, h1, hs, hu, hbd, h2⟩ := h
    refine ⟨h0, h1, hs, hu, by simpa [Blk.bd] using hb, ?_⟩
    rcases h2 with h2 | ⟨hp, C, e, h2, h3, h4, h5⟩
    · exact .inl h2
    · exact .inr ⟨hp, C, e, h2, h3, h4, fun j c u hc hu => ⟨(h5 j c u hc hu).1.cut m (PV.bdL_at (by simpa [Blk.bd] using hb) hc), (h5 j c u hc hu).2⟩⟩
  | map es =>
    obtain ⟨h0, E, clock, h1, h2, h3, h4, h5⟩ := h
    refine ⟨h0, E, clock, h1, h2, fun j p q x hj hx => ?_, h4, h5⟩
    have hb' : ∀ e ∈ es, (e.1.bd m && e.2.bd m) = true := by simpa [Blk.bd] using hb
    have := hb' _ (List.mem_of_getElem? hj)
    simp at this
    exact ⟨(h3 j p q x hj hx).1.cut m this.1, (h3 j p q x hj hx).2.cut m this.2⟩
  | loop l cs => exact ⟨h.1, h.2.1, h.2.2.cut (by simpa [Blk.bd] using hb)⟩
  | dfr => exact h
  | dead => trivial
theorem BlkOk.bound (h : BlkOk G n w i B) : B.bd n = true := by
  cases B with
  | box cs => obtain ⟨h0, C, e, h1, h2, h3⟩ := h; simpa [Blk.bd] using h2.bound
  | row sz cs => exact h.2.2.2.2.1
  | map es =>
    obtain ⟨h0, E, clock, h1, h2, h3, h4, h5⟩ := h
    simp only [Blk.bd, List.all_eq_true]
    intro e he
    obtain ⟨j, hj, rfl⟩ := List.mem_iff_getElem.1 he
    have := h3 j es[j].1 es[j].2 (E[j]'(by omega)) (List.getElem?_eq_getElem hj) (Array.getElem?_eq_getElem (by omega))
    simp [this.1.bound, this.2.bound]
  | loop l cs => simpa [Blk.bd] using h.2.2.bound
  | dfr => rfl
  | dead => rfl
theorem Sim.bound (h : Sim Γ w0 G H w) (B : Blk) (hB : B ∈ H) : B.bd H.length = true := by
  obtain ⟨j, hj, rfl⟩ := List.mem_iff_getElem.1 hB
  exact (h.blk j _ (List.getElem?_eq_getElem hj)).bound
theorem Sim.step (h : Sim Γ w0 G H w) (he : Evol G H.length G') (hi : ∀ k, k < H.length → G'.info k = G.info k) (hb : Below w0.heap.size w0 w') (hs : w.heap.size ≤ w'.heap.size)
    (hk : ∀ (k : Nat) B, H[k]? = some B → B.live (G.info k) = true → w'.heap[(G.info k).blk]? = w.heap[(G.info k).blk]?)
    (hm : ∀ a v, G'.M a = some v → w'.cell? a = some v)
    (hM : ∀ (k : Nat) B, H[k]? = some B → B.live (G.info k) = true → ∀ o s, G'.M ⟨(G.info k).blk, o, s⟩ = none) : Sim Γ w0 G' H w' := by
  have hlt : ∀ (k : Nat) B, H[k]? = some B → k < H.length := fun k B hB => (List.getElem?_eq_some_iff.1 hB).1
  refine ⟨hb, hm, fun k B hB => ?_, fun k B hB hl => ?_, fun k k' B B' hB hB' hl hl' he => ?_, fun g => (h.glob g).mono 0 (he.less (Nat.zero_le _)) (Nat.le_refl _), h.tab⟩
  · rw [hi k (hlt k B hB)]; exact (h.blk k B hB).mono he (Nat.le_refl _) (hk k B hB)
  · rw [hi k (hlt k B hB)] at hl ⊢
    have := h.own k B hB hl
    exact ⟨this.1, by omega, hM k B hB hl⟩
  · rw [hi k (hlt k B hB)] at hl he; rw [hi k' (hlt k' B' hB')] at hl' he; exact h.inj k k' B B' hB hB' hl hl' he
theorem Sim.drew (h : Sim Γ w0 G H w) : Sim Γ w0 G H w.drew :=
  h.step (Evol.refl _ _) (fun _ _ => rfl) h.below.drew (Nat.le_refl _) (fun _ _ _ _ => rfl) h.mem (fun k B hB hl => (h.own k B hB hl).2.2)
theorem Sim.size (h : Sim Γ w0 G H w) : w0.heap.size ≤ w.heap.size := h.below.size
theorem Sim.alloc (h : Sim Γ w0 G H w) (o : Obj) : Sim Γ w0 G H (w.alloc o) :=
  h.step (Evol.refl _ _) (fun _ _ => rfl) (h.below.alloc h.size o) (by simp) (fun k B hB hl => Below.heap_alloc _ _ _ (h.own k B hB hl).2.1)
    (fun a v ha => by
      have := h.mem a v ha
      rw [cell_of_heap (w := w) (Below.heap_alloc _ _ _ (World.block_lt_of_cell? w a this))]; exact this)
    (fun k B hB hl => (h.own k B hB hl).2.2)
theorem Sim.M_new (h : Sim Γ w0 G H w) {g : Nat} (hg : w.heap.size ≤ g) (o : Nat) (s : Option Nat) : G.M ⟨g, o, s⟩ = none := by
  cases hv : G.M ⟨g, o, s⟩ with
  | none => rfl
  | some v => have := World.block_lt_of_cell? w _ (h.mem _ v hv); simp at this; omega
theorem Sim.allocKeep (h : Sim Γ w0 G H w) (C : Array Value) (e : TypeId) (k : Nat) (n : Nat) :
    Sim Γ w0 (G.keep w.heap.size k C) H (w.alloc (.cells C e)) ∧ Evol G n (G.keep w.heap.size k C) := by
  have hM := fun o s => h.M_new (Nat.le_refl _) o s
  refine ⟨h.step (Evol.keep _ hM) (fun _ _ => rfl) (h.below.alloc h.size _) (by simp) (fun k B hB hl => Below.heap_alloc _ _ _ (h.own k B hB hl).2.1) ?_ ?_, Evol.keep _ hM⟩
  · rintro ⟨b, o, s⟩ v ha
    by_cases hb : b = w.heap.size
    · subst hb
      simp only [Ghost.keep] at ha
      split at ha
      · rename_i hc
        obtain ⟨_, hs, _⟩ := hc
        subst hs
        rw [World.cell?_alloc_new]; exact ha
      · rw [hM] at ha; cases ha
    · rw [G.keep_other hb] at ha
      have := h.mem _ v ha
      rw [cell_of_heap (w := w) (Below.heap_alloc _ _ _ (World.block_lt_of_cell? w _ this))]; exact this
  · intro k B hB hl o s
    have := h.own k B hB hl
    rw [G.keep_other (by omega)]; exact this.2.2 o s
theorem Sim.push (h : Sim Γ w0 G H w) (i : Info) (B : Blk) (w' : World) (hb : Below w0.heap.size w0 w') (hs : w.heap.size ≤ w'.heap.size)
    (hk : ∀ k, k < w.heap.size → w'.heap[k]? = w.heap[k]?) (hB : BlkOk (G.setInfo H.length i) (H.length + 1) w' i B)
    (hl : B.live i = true → w.heap.size ≤ i.blk ∧ i.blk < w'.heap.size) :
    Sim Γ w0 (G.setInfo H.length i) (H ++ [B]) w' ∧ Evol G H.length (G.setInfo H.length i) := by
  have he := Evol.setInfo_new G H.length i
  refine ⟨⟨hb, fun a v ha => ?_, fun k D hD => ?_, fun k D hD hlv => ?_, fun k k' D D' hD hD' hlv hlv' hq => ?_, fun g => (h.glob g).mono 0 (he.less (Nat.zero_le _)) (Nat.le_refl _), h.tab⟩, he⟩
  · have := h.mem a v ha
    rw [cell_of_heap (w := w) (hk _ (World.block_lt_of_cell? w a this))]; exact this
  · rw [List.length_append, List.length_singleton]
    by_cases hkl : k < H.length
    · rw [List.getElem?_append_left hkl] at hD
      rw [G.setInfo_other i (by omega)]
      exact (h.blk k D hD).mono he (by omega) (fun hv => hk _ (h.own k D hD hv).2.1)
    · rw [List.getElem?_append_right (by omega)] at hD
      have hk0 : k - H.length = 0 := by
        rcases Nat.eq_zero_or_pos (k - H.length) with h0 | h0
        · exact h0
        · rw [List.getElem?_eq_none (by simp; omega)] at hD; cases hD
      have hkk : k = H.length := by omega
      rw [hk0] at hD; simp at hD; subst hD; subst hkk
      rw [G.setInfo_same]; exact hB
  · by_cases hkl : k < H.length
    · rw [List.getElem?_append_left hkl] at hD
      rw [G.setInfo_other i (by omega)] at hlv ⊢
      have := h.own k D hD hlv
      exact ⟨this.1, by omega, this.2.2⟩
    · rw [List.getElem?_append_right (by omega)] at hD
      have hk0 : k - H.length = 0 := by
        rcases Nat.eq_zero_or_pos (k - H.length) with h0 | h0
        · exact h0
        · rw [List.getElem?_eq_none (by simp; omega)] at hD; cases hD
      have hkk : k = H.length := by omega
      rw [hk0] at hD; simp at hD; subst hD; subst hkk
      rw [G.setInfo_same] at hlv ⊢
      have := hl hlv
      exact ⟨by have := h.size; omega, this.2, fun o s => h.M_new this.1 o s⟩
  · have key : ∀ (k : Nat) D, (H ++ [B])[k]? = some D → (k < H.length ∧ H[k]? = some D) ∨ (k = H.length ∧ D = B) := by
      intro k D hD
      by_cases hkl : k < H.length
      · rw [List.getElem?_append_left hkl] at hD; exact .inl ⟨hkl, hD⟩
      · rw [List.getElem?_append_right (by omega)] at hD
        have hk0 : k - H.length = 0 := by
          rcases Nat.eq_zero_or_pos (k - H.length) with h0 | h0
          · exact h0
          · rw [List.getElem?_eq_none (by simp; omega)] at hD; cases hD
        rw [hk0] at hD; simp at hD; exact .inr ⟨by omega, hD.symm⟩
    rcases key k D hD with ⟨hkl, h1⟩ | ⟨h1, h2⟩ <;> rcases key k' D' hD' with ⟨hkl', h1'⟩ | ⟨h1', h2'⟩
    · rw [G.setInfo_other i (show k ≠ H.length by omega)] at hlv hq; rw [G.setInfo_other i (show k' ≠ H.length by omega)] at hlv' hq
      exact h.inj k k' D D' h1 h1' hlv hlv' hq
    · subst h1' h2'
      rw [G.setInfo_other i (show k ≠ H.length by omega)] at hlv hq; rw [G.setInfo_same] at hlv' hq
      have := (h.own k D h1 hlv).2.1; have := hl hlv'; omega
    · subst h1 h2
      rw [G.setInfo_other i (show k' ≠ H.length by omega)] at hlv' hq; rw [G.setInfo_same] at hlv hq
      have := (h.own k' D' h1' hlv').2.1; have := hl hlv; omega
    · omega
theorem Sim.set (h : Sim Γ w0 G H w) (hb : H[b]? = some B) (he : Evol G H.length G') (hi : ∀ k, k < H.length → k ≠ b → G'.info k = G.info k)
    (hw : Below w0.heap.size w0 w') (hs : w.heap.size ≤ w'.heap.size)
    (hk : ∀ (k : Nat) D, H[k]? = some D → k ≠ b → D.live (G.info k) = true → w'.heap[(G.info k).blk]? = w.heap[(G.info k).blk]?)
    (hm : ∀ a v, G'.M a = some v → w'.cell? a = some v)
    (hM : ∀ (k : Nat) D, H[k]? = some D → k ≠ b → D.live (G.info k) = true → ∀ o s, G'.M ⟨(G.info k).blk, o, s⟩ = none)
    (hB : BlkOk G' H.length w' (G'.info b) B')
    (hl : B'.live (G'.info b) = true → w0.heap.size ≤ (G'.info b).blk ∧ (G'.info b).blk < w'.heap.size ∧ (∀ o s, G'.M ⟨(G'.info b).blk, o, s⟩ = none) ∧
      ∀ (k : Nat) D, H[k]? = some D → k ≠ b → D.live (G.info k) = true → (G.info k).blk ≠ (G'.info b).blk) : Sim Γ w0 G' (H.set b B') w' := by
  have hlt : ∀ (k : Nat) B, H[k]? = some B → k < H.length := fun k B hB => (List.getElem?_eq_some_iff.1 hB).1
  have hbl := hlt b B hb
  have key : ∀ (k : Nat) D, (H.set b B')[k]? = some D → (k ≠ b ∧ H[k]? = some D) ∨ (k = b ∧ D = B') := by
    intro k D hD
    by_cases hkb : k = b
    · subst hkb; rw [List.getElem?_set_self hbl] at hD; exact .inr ⟨rfl, (Option.some.inj hD).symm⟩
    · rw [List.getElem?_set_ne (Ne.symm hkb)] at hD; exact .inl ⟨hkb, hD⟩
  refine ⟨hw, hm, fun k D hD => ?_, fun k D hD hlv => ?_, fun k k' D D' hD hD' hlv hlv' hq => ?_, fun g => (h.glob g).mono 0 (he.less (Nat.zero_le _)) (Nat.le_refl _), h.tab⟩
  · rw [List.length_set]
    rcases key k D hD with ⟨hkb, hD⟩ | ⟨rfl, rfl⟩
    · rw [hi k (hlt k D hD) hkb]; exact (h.blk k D hD).mono he (Nat.le_refl _) (hk k D hD hkb)
    · exact hB
  · rcases key k D hD with ⟨hkb, hD⟩ | ⟨rfl, rfl⟩
    · rw [hi k (hlt k D hD) hkb] at hlv ⊢
      have := h.own k D hD hlv
      exact ⟨this.1, by omega, hM k D hD hkb hlv⟩
    · have := hl hlv; exact ⟨this.1, this.2.1, this.2.2.1⟩
  · rcases key k D hD with ⟨hkb, h1⟩ | ⟨h1, h2⟩ <;> rcases key k' D' hD' with ⟨hkb', h1'⟩ | ⟨h1', h2'⟩
    · rw [hi k (hlt k D h1) hkb] at hlv hq; rw [hi k' (hlt k' D' h1') hkb'] at hlv' hq
      exact h.inj k k' D D' h1 h1' hlv hlv' hq
    · subst h1' h2'
      rw [hi k (hlt k D h1) hkb] at hlv hq
      exact absurd hq ((hl hlv').2.2.2 k D h1 hkb hlv)
    · subst h1 h2
      rw [hi k' (hlt k' D' h1') hkb'] at hlv' hq
      exact absurd hq.symm ((hl hlv).2.2.2 k' D' h1' hkb' hlv')
    · omega
theorem Sim.setSame (h : Sim Γ w0 G H w) (hb : H[b]? = some B) (hlv : B.live (G.info b) = true) (hsame : ∀ k, k ≠ (G.info b).blk → w'.heap[k]? = w.heap[k]?) (hs : w'.heap.size = w.heap.size)
    (ho : w'.os = w.os ∧ w'.tape = w.tape ∧ w'.output = w.output) (hB : BlkOk G H.length w' (G.info b) B') : Sim Γ w0 G (H.set b B') w' := by
  have hown := h.own b B hb hlv
  have hbel : Below w0.heap.size w0 w' := h.below.trans ⟨ho.1, ho.2.1, ho.2.2, by omega, fun k hk => hsame k (by omega)⟩
  refine h.set hb (Evol.refl _ _) (fun _ _ _ => rfl) hbel (by omega) (fun k D hD hkb hl => hsame _ (fun e => hkb (h.inj k b D B hD hb hl hlv e))) (fun a v ha => ?_)
    (fun k D hD _ hl => (h.own k D hD hl).2.2) hB (fun _ => ⟨hown.1, by omega, hown.2.2, fun k D hD hkb hl e => hkb (h.inj k b D B hD hb hl hlv e)⟩)
  have hc := h.mem a v ha
  have hne : a.block ≠ (G.info b).blk := by
    intro e
    obtain ⟨g, o, s⟩ := a
    simp only at e
    subst e
    rw [hown.2.2 o s] at ha; cases ha
  rw [cell_of_heap (w := w) (hsame _ hne)]; exact hc
theorem Sim.take (h : Sim Γ w0 G H w) (m : Nat) (hm : m ≤ H.length) (hB : ∀ B ∈ H.take m, B.bd m = true) : Sim Γ w0 G (H.take m) w := by
  have key : ∀ (k : Nat) D, (H.take m)[k]? = some D → H[k]? = some D := fun k D hD => by
    rw [List.getElem?_take] at hD; split at hD
    · exact hD
    · cases hD
  refine ⟨h.below, h.mem, fun k D hD => ?_, fun k D hD => h.own k D (key k D hD), fun k k' D D' hD hD' => h.inj k k' D D' (key k D hD) (key k' D' hD'), h.glob, h.tab⟩
  rw [List.length_take, Nat.min_eq_left hm]
  exact (h.blk k D (key k D hD)).cut (hB D (List.mem_of_getElem? hD))
theorem Sim.box_at (h : Sim Γ w0 G H w) {cs : List PV} (hb : H[b]? = some (.box cs)) :
    (G.info b).isRow = false ∧ ∃ C e, w.heap[(G.info b).blk]? = some (.cells C e (0, 0)) ∧ Reps G H.length cs C.toList ∧ ∀ (j : Nat) u, C[j]? = some u → u.oneCell' = true := h.blk b _ hb
end
end Go.Proofs.YtddnigahjahkbaaGreatDoor.Fw
namespace Go.Proofs.YtddnigahjahkbaaGreatDoor.Fw
set_option linter.unusedVariables false
set_option linter.unusedSimpArgs false
set_option maxRecDepth 100000
open Go.RowKit
def ofC1 : Value → PV
  | .bool b => .bool b
  | .int k n => .int k n
  | .string s => if s.data.toList.length ≤ 9223372036854775807 then .str s.data.toList else .any
  | .pointer none => .nilp
  | .map none => .nilm
  | .nilFunc => .nilf
  | .nilIface => .nili
  | .slice none 0 0 => .vec [] true
  | .func fn ⟨[]⟩ ⟨[]⟩ => .func fn [] []
  | _ => .any
theorem ofC1_rep (G : Ghost) (n : Nat) (v : Value) : Rep G n (ofC1 v) v := by
  unfold ofC1
  split
  · exact .bool _ _
  · exact .int _ _ _
  · rename_i s
    split
    · rename_i h; exact .str n s.data.toList h
    · exact .any _ _
  · exact .nilp _
  · exact .nilm _
  · exact .nilf _
  · exact .nili _
  · exact .vec0 _ _ _
  · exact .func n _ [] [] #[] #[] rfl rfl (fun i c v h => by simp at h) (fun i c v h => by simp at h)
  · exact .any _ _
def ofC : Value → PV
  | .agg cs => if cs.toList.all (fun v => v.oneCell') = true then .agg (cs.toList.map ofC1) else .any
  | v => ofC1 v
theorem ofC_rep (G : Ghost) (n : Nat) (v : Value) : Rep G n (ofC v) v := by
  unfold ofC
  split
  · rename_i cs
    split
    · rename_i hall
      refine .agg _ _ _ (by simp) (fun j c v hc hv => ?_) (fun j v hv => ?_)
      · simp only [List.getElem?_map, Array.getElem?_toList, hv, Option.map_some, Option.some.injEq] at hc
        subst hc
        exact ofC1_rep G n v
      · exact List.all_eq_true.1 hall v (List.mem_of_getElem? (i := j) (by rw [Array.getElem?_toList]; exact hv))
    · exact .any _ _
  · exact ofC1_rep G n _
def alook : List (Nat × PV) → Nat → PV
  | [], _ => .any
  | (k, p) :: r, t => if t = k then p else alook r t
def aput (A : List (Nat × PV)) : Option Tmp → PV → List (Nat × PV)
  | none, _ => A
  | some d, p => (d, p) :: A
def ev (Γ : Nat → PV) (A : List (Nat × PV)) : Operand → PV
  | .tmp t => alook A t
  | .const v => ofC v
  | .global g => Γ g
  | .func f => .func (.func f) [] []
def ASim (G : Ghost) (n N : Nat) (A : List (Nat × PV)) (a : Act) : Prop := a.tmps.size = N ∧ ∀ t, Rep G n (alook A t) (a.tmps.getD t undef)
theorem ASim.ev {Γ : Nat → PV} {G : Ghost} {n N : Nat} {A : List (Nat × PV)} {a : Act} (h : ASim G n N A a) (hg : ∀ g, Rep G 0 (Γ g) (.pointer (some ⟨g, 0, none⟩))) (x : Operand) :
    Rep G n (ev Γ A x) (a.eval x) := by
  cases x with
  | tmp t => exact h.2 t
  | const v => exact ofC_rep G n v
  | global g => exact (hg g).mono n (Evol.refl _ _) (Nat.zero_le _)
  | func f => exact .func n _ [] [] #[] #[] rfl rfl (fun i c v h => by simp at h) (fun i c v h => by simp at h)
theorem ASim.mono {G G' : Ghost} {n m N : Nat} {A : List (Nat × PV)} {a : Act} (h : ASim G n N A a) (he : Evol G n G') (hm : n ≤ m) : ASim G' m N A a :=
  ⟨h.1, fun t => (h.2 t).mono m he hm⟩
theorem ASim.put {G : Ghost} {n N : Nat} {A : List (Nat × PV)} {a : Act} (h : ASim G n N A a) {p : PV} {v : Value} (hp : Rep G n p v) {dst : Option Tmp} (hd : ∀ d, dst = some d → d < N) :
    ASim G n N (aput A dst p) (a.put dst v) := by
  cases dst with
  | none => exact h
  | some d =>
    have hd' := hd d rfl
    refine ⟨by simp [Act.put, h.1], fun t => ?_⟩
    simp only [aput, alook, Act.put]
    by_cases e : t = d
    · subst e
      rw [if_pos rfl]
      have : (a.tmps.setIfInBounds t v).getD t undef = v := by simp [Array.getD, h.1, hd']
      rw [this]; exact hp
    · rw [if_neg e]
      have : (a.tmps.setIfInBounds d v).getD t undef = a.tmps.getD t undef := by
        simp only [Array.getD_eq_getD_getElem?, Array.getElem?_setIfInBounds_ne (fun h => e h.symm)]
      rw [this]; exact h.2 t
theorem ASim.less {G : Ghost} {n N : Nat} {A A' : List (Nat × PV)} {a : Act} (h : ASim G n N A a) (hs : ∀ t, alook A' t = alook A t ∨ alook A' t = .any) : ASim G n N A' a :=
  ⟨h.1, fun t => by rcases hs t with e | e <;> rw [e]; exact h.2 t; exact .any _ _⟩
structure TI where
  size : Nat
  bytes : Nat
  agg : Bool
  zero : List PV
def aggD : TypeDesc → Bool
  | .struct _ | .array _ _ => true
  | _ => false
def tiOf (P : Program) (t : TypeId) : Option TI :=
  match P.info? t, P.underlying t with
  | some i, some d => match i.zero with
    | some z => if z.cells.size = i.size ∧ z.cells.toList.all (·.oneCell') = true then
        some { size := i.size, bytes := i.bytes, agg := (aggD d), zero := z.cells.toList.map ofC } else none
    | none => none
  | _, _ => none
theorem tiOf_spec {P : Program} {t : TypeId} {ti : TI} (h : tiOf P t = some ti) : ∃ i d z, P.info? t = some i ∧ P.underlying t = some d ∧ i.zero = some z ∧ z.cells.size = ti.size ∧ i.size = ti.size ∧ i.bytes = ti.bytes ∧
    (∀ (j : Nat) u, z.cells[j]? = some u → u.oneCell' = true) ∧ ti.agg = (aggD d) ∧ ti.zero = z.cells.toList.map ofC := by
  unfold tiOf at h
  split at h
  · rename_i i d hi hd
    split at h
    · rename_i z hz
      split at h
      · rename_i hc
        obtain rfl := Option.some.inj h
        refine ⟨i, d, z, hi, hd, hz, hc.1, rfl, rfl, fun j u hu => ?_, rfl, rfl⟩
        have := hc.2
        rw [List.all_eq_true] at this
        exact this u (by simpa using Array.mem_of_getElem? hu)
      · cases h
    · cases h
  · cases h
theorem run_under {P : Program} {t : TypeId} {d : TypeDesc} (h : P.underlying t = some d) (w : World) : (underlying t).run P w = .ok d w := by
  simp [underlying, program, Sem.run, h]
theorem run_info {P : Program} {t : TypeId} {i : TypeInfo} (h : P.info? t = some i) (w : World) : (typeInfo t).run P w = .ok i w := by
  simp [typeInfo, program, Sem.run, h]
theorem run_zero {P : Program} {t : TypeId} {i : TypeInfo} {z : Value} (h : P.info? t = some i) (hz : i.zero = some z) (w : World) : (zeroValue t).run P w = .ok z w := by
  simp [zeroValue, run_info h, hz]
theorem run_size {P : Program} {t : TypeId} {i : TypeInfo} (h : P.info? t = some i) (w : World) : (sizeOf t).run P w = .ok i.size w := by
  simp [sizeOf, run_info h]
theorem run_agg {P : Program} {t : TypeId} {d : TypeDesc} (h : P.underlying t = some d) (w : World) : (isAgg t).run P w = .ok (aggD d) w := by
  simp [isAgg, run_under h]
  cases d <;> rfl
abbrev Fr (ro : Option Nat) : Fence := { Fence.wide with round := ro }
def OStep (P : Program) (Γ : Nat → PV) (o : Oper) (A : List (Nat × PV)) (H : List Blk) (K : PV → List Blk → Prop) : Prop :=
  ∀ (ro : Option Nat) (w0 : World) (G : Ghost) (w : World) (N : Nat) (a : Act) (next : Act → World → Prop) (Q : Exit → Act → World → Prop), Sim Γ w0 G H w → ASim G H.length N A a →
    (∀ v w' G' p H', Sim Γ w0 G' H' w' → Rep G' H'.length p v → Evol G H.length G' → H.length ≤ H'.length → K p H' → next (a.put o.dst v) w') →
    o.wpIn (Fr ro) 0 P a w next Q
theorem wpIn_of_upon {P : Program} {o : Oper} {ro : Option Nat} {a : Act} {w : World} {next : Act → World → Prop} {Q : Exit → Act → World → Prop} (hd : ∀ c, o.op ≠ .defer c)
    (h : o.uponIn (Fr ro) 0 P a next Q ((execOp a.eval o).run P w)) : o.wpIn (Fr ro) 0 P a w next Q := by
  refine ⟨fun _ _ => trivial, ?_⟩
  rw [Oper.semAt_eq _ _ _ hd]
  exact h
section
variable {P : Program} {Γ : Nat → PV} {o : Oper} {A : List (Nat × PV)} {H : List Blk} {K : PV → List Blk → Prop}
theorem ostep_value (hd : ∀ c, o.op ≠ .defer c) (h : ∀ (w0 : World) (G : Ghost) (w : World) (N : Nat) (a : Act), Sim Γ w0 G H w → ASim G H.length N A a →
    ∃ v w' G' p H', (execOp a.eval o).run P w = .ok (.value v) w' ∧ Sim Γ w0 G' H' w' ∧ Rep G' H'.length p v ∧ Evol G H.length G' ∧ H.length ≤ H'.length ∧ K p H') : OStep P Γ o A H K := by
  intro ro w0 G w N a next Q hs ha hn
  obtain ⟨v, w', G', p, H', hr, h1, h2, h3, h4, h5⟩ := h w0 G w N a hs ha
  refine wpIn_of_upon hd ?_
  rw [hr]
  exact hn v w' G' p H' h1 h2 h3 h4 h5
theorem ostep_pure (hd : ∀ c, o.op ≠ .defer c) (p : PV) (hk : K p H) (h : ∀ (w0 : World) (G : Ghost) (w : World) (N : Nat) (a : Act), Sim Γ w0 G H w → ASim G H.length N A a →
    ∃ v, (execOp a.eval o).run P w = .ok (.value v) w ∧ Rep G H.length p v) : OStep P Γ o A H K :=
  ostep_value hd fun w0 G w N a hs ha => let ⟨v, h1, h2⟩ := h w0 G w N a hs ha; ⟨v, w, G, p, H, h1, hs, h2, Evol.refl _ _, Nat.le_refl _, hk⟩
theorem ostep_skip (hd : ∀ c, o.op ≠ .defer c) (h : ∀ (w0 : World) (G : Ghost) (w : World) (N : Nat) (a : Act), Sim Γ w0 G H w → ASim G H.length N A a →
    ∃ w' G' H', (execOp a.eval o).run P w = .ok .skip w' ∧ Sim Γ w0 G' H' w' ∧ Evol G H.length G' ∧ H.length ≤ H'.length ∧ K .any H') : OStep P Γ o A H K := by
  intro ro w0 G w N a next Q hs ha hn
  obtain ⟨w', G', H', hr, h1, h3, h4, h5⟩ := h w0 G w N a hs ha
  refine wpIn_of_upon hd ?_
  rw [hr]
  exact hn undef w' G' .any H' h1 (.any _ _) h3 h4 h5
theorem OStep.mono {K' : PV → List Blk → Prop} (h : OStep P Γ o A H K) (hk : ∀ p H', K p H' → K' p H') : OStep P Γ o A H K' :=
  fun ro w0 G w N a next Q hs ha hn => h ro w0 G w N a next Q hs ha (fun v w' G' p H' h1 h2 h3 h4 h5 => hn v w' G' p H' h1 h2 h3 h4 (hk p H' h5))
theorem os_move {x : Operand} (ho : o.op = .move x) (hk : K (ev Γ A x) H) : OStep P Γ o A H K :=
  ostep_pure (by simp [ho]) _ hk fun w0 G w N a hs ha => ⟨a.eval x, by simp [execOp, ho], ha.ev hs.glob x⟩
theorem os_assign {x : Operand} (ho : o.op = .assign x) (hk : K (ev Γ A x) H) : OStep P Γ o A H K :=
  ostep_pure (by simp [ho]) _ hk fun w0 G w N a hs ha => ⟨a.eval x, by simp [execOp, ho], ha.ev hs.glob x⟩
theorem Rep.bool_inv {G : Ghost} {n : Nat} {b : Bool} {v : Value} (h : Rep G n (.bool b) v) : v = .bool b := by cases h; rfl
theorem Rep.int_inv {G : Ghost} {n : Nat} {k : IntKind} {i : Int} {v : Value} (h : Rep G n (.int k i) v) : v = .int k i := by cases h; rfl
theorem Rep.str_inv {G : Ghost} {n : Nat} {s : List UInt8} {v : Value} (h : Rep G n (.str s) v) : v = .string ⟨s.toArray⟩ := by cases h; rfl
theorem Rep.str_len {G : Ghost} {n : Nat} {s : List UInt8} {v : Value} (h : Rep G n (.str s) v) : s.length ≤ 9223372036854775807 := by cases h; assumption
theorem Rep.vec_len {G : Ghost} {n : Nat} {es : List (List PV)} {f : Bool} {v : Value} (h : Rep G n (.vec es f) v) : es.length ≤ 9223372036854775807 := by
  cases h with
  | vec0 => exact Nat.zero_le _
  | vec _ _ _ _ _ _ _ _ hn => exact hn
theorem Rep.row_len {G : Ghost} {n b q k sz : Nat} {v : Value} (h : Rep G n (.row b q k sz) v) : k ≤ 9223372036854775807 := by cases h; assumption
theorem Rep.ptr_inv {G : Ghost} {n b q : Nat} {v : Value} (h : Rep G n (.ptr b q) v) : v = .pointer (some ⟨(G.info b).blk, q, none⟩) ∧ b < n ∧ (G.info b).isRow = false := by
  cases h with
  | ptr _ _ _ h1 h2 => exact ⟨rfl, h1, h2⟩
theorem Rep.eptr_inv {G : Ghost} {n b q len : Nat} {v : Value} (h : Rep G n (.eptr b q len) v) : ∃ ad : Addr, v = .pointer (some ad) ∧ b < n ∧ (G.info b).isRow = true ∧ len ≤ (G.info b).len ∧ ((G.info b).len = len → (G.info b).sub ≤ q ∧ ad = ⟨(G.info b).blk, q - (G.info b).sub, none⟩) := by
  cases h with
  | eptr _ _ _ _ ad h1 h2 h3 h4 => exact ⟨ad, rfl, h1, h2, h3, h4⟩
theorem Rep.row_inv {G : Ghost} {n b q k sz : Nat} {v : Value} (h : Rep G n (.row b q k sz) v) : ∃ ad cap, v = .slice ad k cap ∧ b < n ∧ (G.info b).isRow = true ∧ q + k * sz ≤ (G.info b).len ∧
    ((G.info b).len = q + k * sz → k ≤ cap ∧ (((G.info b).sub ≤ q ∧ ad = some ⟨(G.info b).blk, q - (G.info b).sub, none⟩ ∧ (q - (G.info b).sub) + cap * sz = (G.info b).size) ∨ (k = 0 ∧ cap = 0))) := by
  cases h with
  | row _ _ _ _ _ ad cap _ h1 h2 h3 h4 => exact ⟨ad, cap, rfl, h1, h2, h3, h4⟩
theorem os_pick {c x y : Operand} {b : Bool} (ho : o.op = .pick c x y) (hc : ev Γ A c = .bool b) (hk : K (if b then ev Γ A x else ev Γ A y) H) : OStep P Γ o A H K :=
  ostep_pure (by simp [ho]) _ hk fun w0 G w N a hs ha => by
    have h := ha.ev hs.glob c
    rw [hc] at h
    refine ⟨if b then a.eval x else a.eval y, ?_, ?_⟩
    · simp [execOp, ho, h.bool_inv, asBool]
    · cases b
      · exact ha.ev hs.glob y
      · exact ha.ev hs.glob x
theorem Sim.newBox {w0 : World} {G : Ghost} {w : World} (h : Sim Γ w0 G H w) (C : Array Value) (e : TypeId) {cs : List PV} (hr : Reps G H.length cs C.toList) (h1 : ∀ (j : Nat) u, C[j]? = some u → u.oneCell' = true) :
    ∃ G', Sim Γ w0 G' (H ++ [Blk.box cs]) (w.alloc (.cells C e)) ∧ Evol G H.length G' ∧ Rep G' (H ++ [Blk.box cs]).length (.ptr H.length 0) (.pointer (some ⟨w.heap.size, 0, none⟩)) := by
  let i : Info := { blk := w.heap.size, len := 0, size := 0, sub := 0, isRow := false }
  have hp := h.push i (.box cs) (w.alloc (.cells C e)) (h.below.alloc h.size _) (by simp) (fun k hk => Below.heap_alloc _ _ _ hk)
    ⟨rfl, C, e, heap_new w _, hr.mono (Evol.setInfo_new G _ i) (by omega), h1⟩ (fun _ => ⟨Nat.le_refl _, by simp [i]⟩)
  refine ⟨_, hp.1, hp.2, ?_⟩
  have := Rep.ptr (G := G.setInfo H.length i) (H ++ [Blk.box cs]).length H.length 0 (by simp) (by rw [G.setInfo_same])
  rw [G.setInfo_same] at this
  exact this
theorem os_alloc {t : TypeId} {ti : TI} (ho : o.op = .alloc t) (ht : tiOf P t = some ti) (hk : K (.ptr H.length 0) (H ++ [.box ti.zero])) : OStep P Γ o A H K :=
  ostep_value (by simp [ho]) fun w0 G w N a hs ha => by
    obtain ⟨i, d, z, hi, hd, hz, hzs, _, _, h1, _, hzero⟩ := tiOf_spec ht
    have hr : Reps G H.length ti.zero z.cells.toList := by
      rw [hzero]
      refine ⟨by simp, fun j p v hp hv => ?_⟩
      rw [List.getElem?_map, hv] at hp
      obtain rfl := Option.some.inj hp
      exact ofC_rep _ _ _
    obtain ⟨G', h2, h3, h4⟩ := hs.newBox z.cells t hr h1
    exact ⟨_, _, G', _, _, by simp [execOp, ho, Instr.alloc, run_zero hi hz, newVar, newRow, newObj, Sem.run], h2, h4, h3, by simp, hk⟩
def PV.shaped : PV → Bool
  | .tup _ | .any => false
  | _ => true
theorem PV.shaped_iff {p : PV} (h : p.shaped = true) : p.one = true ∨ ∃ cs, p = .agg cs := by cases p <;> simp_all [PV.shaped, PV.one]
theorem os_box {t : TypeId} {x : Operand} (ho : o.op = .box t x) (hx : (ev Γ A x).shaped = true) (hk : K (.ptr H.length 0) (H ++ [.box (ev Γ A x).cells])) : OStep P Γ o A H K :=
  ostep_value (by simp [ho]) fun w0 G w N a hs ha => by
    have h := (ha.ev hs.glob x).cells (PV.shaped_iff hx)
    obtain ⟨G', h2, h3, h4⟩ := hs.newBox _ t h.1 h.2
    exact ⟨_, _, G', _, _, by simp [execOp, ho, Instr.box, newVar, newRow, newObj, Sem.run], h2, h4, h3, by simp, hk⟩
def rd (Γ : Nat → PV) (A : List (Nat × PV)) (H : List Blk) (x : Operand) : Option (List PV) :=
  match ev Γ A x with
  | .cptr cs => some cs
  | .ptr b o => match H[b]? with
    | some (.box cs) => some (cs.drop o)
    | _ => none
  | .eptr b o len => match H[b]? with
    | some (.row _ cs) => if cs.length = len then some (cs.drop o) else none
    | _ => none
  | _ => none
theorem rd_spec {w0 : World} {G : Ghost} {w : World} {N : Nat} {a : Act} {x : Operand} {cs : List PV} (hs : Sim Γ w0 G H w) (ha : ASim G H.length N A a) (h : rd Γ A H x = some cs) :
    ∃ b q, a.eval x = .pointer (some ⟨b, q, none⟩) ∧ ∀ (i : Nat) c, cs[i]? = some c → ∃ v, w.cell? ⟨b, q + i, none⟩ = some v ∧ Rep G H.length c v ∧ v.oneCell' = true := by
  have hx := ha.ev hs.glob x
  unfold rd at h
  split at h
  · rename_i cs' he
    obtain rfl := Option.some.inj h
    rw [he] at hx
    generalize a.eval x = u at hx ⊢
    cases hx with
    | cptr _ _ b q vs h1 h2 h3 =>
      exact ⟨b, q, rfl, fun i c hc => ⟨vs i, hs.mem _ _ (h1 i c hc), (h2 i c hc).mono _ (Evol.refl _ _) (Nat.zero_le _), h3 i c hc⟩⟩
  · rename_i b q he
    rw [he] at hx
    split at h
    · rename_i cs' hb
      obtain rfl := Option.some.inj h
      generalize a.eval x = u at hx ⊢
      cases hx with
      | ptr _ _ _ hlt hr =>
        obtain ⟨_, C, e, hh, hc, h1⟩ := hs.box_at hb
        have hsz : cs'.length = C.size := hc.1.trans Array.length_toList
        refine ⟨_, q, rfl, fun i c hci => ?_⟩
        rw [List.getElem?_drop] at hci
        have hlen : q + i < C.size := by
          have h2 := (List.getElem?_eq_some_iff.1 hci).1
          omega
        exact ⟨C[q + i], by simp [World.cell?, hh, hlen], hc.2 _ _ _ hci (by rw [Array.getElem?_toList, Array.getElem?_eq_getElem hlen]), h1 _ _ (Array.getElem?_eq_getElem hlen)⟩
    · cases h
  · rename_i b q len he
    rw [he] at hx
    split at h
    · rename_i sz cs' hb
      split at h
      · rename_i hlen
        obtain rfl := Option.some.inj h
        obtain ⟨hr', hl', _, _, _, hrest⟩ := hs.blk b _ hb
        obtain ⟨ad, hax, hlt, hr, hl, had⟩ := hx.eptr_inv
        obtain ⟨hsub, rfl⟩ := had (by omega)
        refine ⟨_, _, hax, fun i c hci => ?_⟩
        rw [List.getElem?_drop] at hci
        have hq := (List.getElem?_eq_some_iff.1 hci).1
        rcases hrest with ⟨_, hz⟩ | ⟨_, C, e, hh, hsz, hle, h5⟩
        · omega
        · have hlc : q - (G.info b).sub + i < C.size := by omega
          have hci' : cs'[(G.info b).sub + (q - (G.info b).sub + i)]? = some c := by rw [show (G.info b).sub + (q - (G.info b).sub + i) = q + i by omega]; exact hci
          have := h5 _ _ _ hci' (Array.getElem?_eq_getElem hlc)
          exact ⟨C[q - (G.info b).sub + i], by simp [World.cell?, hh, hlc], this.1, this.2⟩
      · cases h
    · cases h
  · cases h
theorem os_load {t : TypeId} {x : Operand} {ti : TI} {cs : List PV} {p : PV} (ho : o.op = .load t x) (ht : tiOf P t = some ti) (hr : rd Γ A H x = some cs)
    (hp : if ti.agg = true then ti.size ≤ cs.length ∧ p = .agg (cs.take ti.size) else cs[0]? = some p) (hk : K p H) : OStep P Γ o A H K :=
  ostep_pure (by simp [ho]) _ hk fun w0 G w N a hs ha => by
    obtain ⟨i, d, z, hi, hd, hz, hzs, hsz, _, _, hagg, _⟩ := tiOf_spec ht
    have hra : (isAgg t).run P w = .ok ti.agg w := by rw [run_agg hd, hagg]
    obtain ⟨b, q, he, hc⟩ := rd_spec hs ha hr
    by_cases hag : ti.agg = true
    · rw [if_pos hag] at hp
      obtain ⟨hle, rfl⟩ := hp
      have hv : ∀ j, j < ti.size → ∃ v, w.cell? ⟨b, q + j, none⟩ = some v ∧ Rep G H.length (cs.getD j .any) v ∧ v.oneCell' = true := fun j hj => by
        have hj' : j < cs.length := by omega
        obtain ⟨v, h1, h2, h3⟩ := hc j cs[j] (List.getElem?_eq_getElem hj')
        exact ⟨v, h1, by simpa [List.getD, hj'] using h2, h3⟩
      let f : Nat → Value := fun j => (w.cell? ⟨b, q + j, none⟩).getD undef
      have hf : ∀ j, j < ti.size → w.cell? ((⟨b, q, none⟩ : Addr).add j) = some (f j) := fun j hj => by
        rw [Go.Proofs.YtddnigahjahkbaaGreatDoor.Fw.add_at]
        obtain ⟨v, h1, _⟩ := hv j hj
        simp [f, h1]
      have hrun := run_loadCells (P := P) w ⟨b, q, none⟩ ti.size f hf
      refine ⟨.agg ((List.range ti.size).map f).toArray, ?_, ?_⟩
      · simp [execOp, ho, Instr.loadAt, he, Instr.sureAddr, loadVar, hra, hag, run_size hi, hsz, hrun]
      · refine .agg _ _ _ (by simp; omega) (fun j c v hcj hvj => ?_) (fun j v hvj => ?_)
        · rw [List.getElem?_take] at hcj
          split at hcj
          · rename_i hj
            obtain ⟨v', h1, h2, _⟩ := hv j hj
            have : v = v' := by simp [hj, f, h1] at hvj; exact hvj.symm
            subst this
            have : cs.getD j .any = c := by simp [List.getD, hcj]
            rw [this] at h2; exact h2
          · cases hcj
        · have hj : j < ti.size := by
            by_cases hj : j < ti.size
            · exact hj
            · simp [hj] at hvj
          obtain ⟨v', h1, _, h3⟩ := hv j hj
          have : v = v' := by simp [hj, f, h1] at hvj; exact hvj.symm
          subst this; exact h3
    · rw [if_neg hag] at hp
      obtain ⟨v, h1, h2, h3⟩ := hc 0 p hp
      have hag' : ti.agg = false := by simpa using hag
      refine ⟨v, ?_, h2⟩
      simp only [Nat.add_zero] at h1
      simp [execOp, ho, Instr.loadAt, he, Instr.sureAddr, loadVar, hra, hag', h1]
end
end Go.Proofs.YtddnigahjahkbaaGreatDoor.Fw
namespace Go.Proofs.YtddnigahjahkbaaGreatDoor.Fw
set_option linter.unusedVariables false
set_option linter.unusedSimpArgs false
set_option maxRecDepth 100000
open Go.RowKit
def splice (cs : List PV) (q : Nat) (xs : List PV) : List PV := cs.take q ++ xs ++ cs.drop (q + xs.length)
theorem splice_length {cs xs : List PV} {q : Nat} (h : q + xs.length ≤ cs.length) : (splice cs q xs).length = cs.length := by
  simp [splice]; omega
theorem get_splice {α : Type} (cs xs : List α) (q i : Nat) (h : q + xs.length ≤ cs.length) :
    (cs.take q ++ xs ++ cs.drop (q + xs.length))[i]? = if i < q then cs[i]? else if i < q + xs.length then xs[i - q]? else cs[i]? := by
  by_cases h1 : i < q
  · rw [if_pos h1, List.append_assoc, List.getElem?_append_left (by simp; omega), List.getElem?_take, if_pos h1]
  · rw [if_neg h1]
    by_cases h2 : i < q + xs.length
    · rw [if_pos h2, List.getElem?_append_left (by simp; omega), List.getElem?_append_right (by simp; omega)]
      congr 1
      simp; omega
    · rw [if_neg h2, List.getElem?_append_right (by simp; omega), List.getElem?_drop]
      congr 1
      simp; omega
theorem Reps.splice {G : Ghost} {n : Nat} {cs xs : List PV} {C vs : List Value} {q : Nat} (h : Reps G n cs C) (k : Reps G n xs vs) (hl : q + xs.length ≤ cs.length) :
    Reps G n (Fw.splice cs q xs) (C.take q ++ vs ++ C.drop (q + vs.length)) := by
  have h1 := h.1
  have h2 := k.1
  refine ⟨by simp [Fw.splice]; omega, fun i p v hp hv => ?_⟩
  unfold Fw.splice at hp
  rw [get_splice _ _ _ _ hl] at hp
  rw [get_splice _ _ _ _ (by omega)] at hv
  by_cases c1 : i < q
  · rw [if_pos c1] at hp hv; exact h.2 i p v hp hv
  · rw [if_neg c1] at hp hv
    by_cases c2 : i < q + xs.length
    · rw [if_pos c2] at hp; rw [if_pos (by omega)] at hv; exact k.2 _ p v hp hv
    · rw [if_neg c2] at hp; rw [if_neg (by omega)] at hv; exact h.2 i p v hp hv
section
variable {P : Program} {Γ : Nat → PV} {o : Oper} {A : List (Nat × PV)} {H : List Blk} {K : PV → List Blk → Prop}
theorem Sim.writeBox {w0 : World} {G : Ghost} {w : World} {b q : Nat} {cs xs : List PV} {vs : Array Value} (h : Sim Γ w0 G H w) (hb : H[b]? = some (.box cs)) (hx : Reps G H.length xs vs.toList)
    (h1 : ∀ (j : Nat) u, vs[j]? = some u → u.oneCell' = true) (hl : q + xs.length ≤ cs.length) :
    ∃ w', (storeCells ⟨(G.info b).blk, q, none⟩ vs.toList).run P w = .ok () w' ∧ Sim Γ w0 G (H.set b (.box (splice cs q xs))) w' := by
  obtain ⟨hr, C, e, hh, hc, hone⟩ := hs h hb
  have hsz : cs.length = C.size := hc.1.trans Array.length_toList
  have hxl : xs.length = vs.size := hx.1.trans Array.length_toList
  have hall : ∀ v ∈ vs.toList, v.oneCell' = true := fun v hv => by
    obtain ⟨j, hj, rfl⟩ := List.mem_iff_getElem.1 hv
    exact h1 j _ (by simp at hj ⊢)
  refine ⟨_, run_storeCells_at (P := P) (G.info b).blk q e vs.toList 0 C w hh (by simp; omega) hall, ?_⟩
  refine h.setSame hb rfl (fun k hk => setRow_other w _ k _ hk) (by simp) ⟨rfl, rfl, rfl⟩ ⟨hr, _, e, setRow_heap w _ C _ e _ hh, ?_, fun j u hu => ?_⟩
  · simp only [Nat.add_zero, List.toList_toArray]
    exact hc.splice hx hl
  · have hu' : (C.toList.take (q + 0) ++ vs.toList ++ C.toList.drop (q + 0 + vs.toList.length))[j]? = some u := by simpa using hu
    rw [Nat.add_zero, get_splice _ _ _ _ (by simp; omega)] at hu'
    split at hu'
    · exact hone j u (by simpa using hu')
    · split at hu'
      · exact h1 _ u (by simpa using hu')
      · exact hone j u (by simpa using hu')
 where hs {w0 : World} {G : Ghost} {w : World} {b : Nat} {cs : List PV} (h : Sim Γ w0 G H w) (hb : H[b]? = some (.box cs)) :
    (G.info b).isRow = false ∧ ∃ C e, w.heap[(G.info b).blk]? = some (.cells C e (0, 0)) ∧ Reps G H.length cs C.toList ∧ ∀ (j : Nat) u, C[j]? = some u → u.oneCell' = true := h.box_at hb
theorem run_storeVar' {w w' : World} {t : TypeId} {i : TypeInfo} {b q : Nat} {v : Value} (hi : P.info? t = some i) (hs : v.cells.size = i.size) (hr : (storeCells ⟨b, q, none⟩ v.cells.toList).run P w = .ok () w') :
    (storeVar t ⟨b, q, none⟩ v).run P w = .ok () w' := by
  simp [storeVar, run_size hi, hs, hr]
theorem os_store {t : TypeId} {x y : Operand} {ti : TI} {b q : Nat} {cs : List PV} (ho : o.op = .store t x y) (ht : tiOf P t = some ti) (hx : ev Γ A x = .ptr b q) (hb : H[b]? = some (.box cs))
    (hy : (ev Γ A y).shaped = true) (hl : (ev Γ A y).cells.length = ti.size) (hq : q + ti.size ≤ cs.length) (hk : K .any (H.set b (.box (splice cs q (ev Γ A y).cells)))) : OStep P Γ o A H K :=
  ostep_skip (by simp [ho]) fun w0 G w N a hs ha => by
    obtain ⟨i, d, z, hi, hd, hz, hzs, hsz, _, _, hagg, _⟩ := tiOf_spec ht
    have hxr := ha.ev hs.glob x
    rw [hx] at hxr
    have hyc := (ha.ev hs.glob y).cells (PV.shaped_iff hy)
    have hyl : (a.eval y).cells.size = ti.size := by rw [← hl]; have := hyc.1.1; rw [this]; simp
    obtain ⟨w', hw', hsim⟩ := hs.writeBox (P := P) (q := q) hb hyc.1 hyc.2 (by omega)
    obtain ⟨hax, hlt, hr⟩ := hxr.ptr_inv
    refine ⟨w', G, _, ?_, hsim, Evol.refl _ _, by simp, hk⟩
    simp [execOp, ho, Instr.storeAt, hax, Instr.sureAddr, run_storeVar' (P := P) hi (by omega) hw']
def shift (p : PV) (n : Nat) : Option PV :=
  match p with
  | .ptr b q => some (.ptr b (q + n))
  | .cptr cs => some (.cptr (cs.drop n))
  | .eptr b q len => some (.eptr b (q + n) len)
  | _ => none
theorem shift_rep {G : Ghost} {m n : Nat} {p p' : PV} {v : Value} (h : Rep G m p v) (hp : shift p n = some p') : ∃ ad : Addr, v = .pointer (some ad) ∧ Rep G m p' (.pointer (some (ad.add n))) := by
  unfold shift at hp
  split at hp
  · rename_i b q
    obtain rfl := Option.some.inj hp
    obtain ⟨rfl, hb, hr⟩ := h.ptr_inv
    exact ⟨_, rfl, by rw [Fw.add_at]; exact .ptr m b _ hb hr⟩
  · rename_i cs
    obtain rfl := Option.some.inj hp
    cases h with
    | cptr _ _ b q vs h1 h2 h3 =>
      refine ⟨_, rfl, ?_⟩
      rw [Fw.add_at]
      refine .cptr m _ b (q + n) (fun i => vs (n + i)) (fun i c hc => ?_) (fun i c hc => ?_) (fun i c hc => ?_)
      · rw [List.getElem?_drop] at hc; rw [Nat.add_assoc]; exact h1 _ c hc
      · rw [List.getElem?_drop] at hc; exact h2 _ c hc
      · rw [List.getElem?_drop] at hc; exact h3 _ c hc
  · rename_i b q len
    obtain rfl := Option.some.inj hp
    obtain ⟨ad, rfl, hb, hr, hl, had⟩ := h.eptr_inv
    refine ⟨ad, rfl, .eptr m b (q + n) len (ad.add n) hb hr hl (fun e => ?_)⟩
    obtain ⟨hsub, rfl⟩ := had e
    exact ⟨by omega, by rw [Fw.add_at]; congr 1; omega⟩
  · cases hp
def fldOf (P : Program) (s : TypeId) (f : Nat) : Option (Nat × Nat × Bool) :=
  match P.underlying s with
  | some (.struct fs) => match fs[f]? with
    | some fd => match P.info? fd.type, P.underlying fd.type with
      | some i, some d => if i.size = 0 then none else some (fd.offset, i.size, aggD d)
      | _, _ => none
    | none => none
  | _ => none
theorem fldOf_spec {s : TypeId} {f off size : Nat} {ag : Bool} (h : fldOf P s f = some (off, size, ag)) : ∃ (fs : Array Field) (fd : Field) (i : TypeInfo) (d : TypeDesc), P.underlying s = some (.struct fs) ∧ fs[f]? = some fd ∧ P.info? fd.type = some i ∧
    P.underlying fd.type = some d ∧ i.size ≠ 0 ∧ fd.offset = off ∧ i.size = size ∧ aggD d = ag := by
  unfold fldOf at h
  split at h
  · rename_i fs hu
    split at h
    · rename_i fd hf
      split at h
      · rename_i i d hi hd
        split at h
        · cases h
        · rename_i hz
          simp only [Option.some.injEq, Prod.mk.injEq] at h
          exact ⟨fs, fd, i, d, hu, hf, hi, hd, hz, h.1, h.2.1, h.2.2⟩
      · cases h
    · cases h
  · cases h
theorem os_fieldAddr {s : TypeId} {x : Operand} {f off size : Nat} {ag : Bool} {p : PV} (ho : o.op = .fieldAddr s x f) (hf : fldOf P s f = some (off, size, ag)) (hp : shift (ev Γ A x) off = some p) (hk : K p H) : OStep P Γ o A H K :=
  ostep_pure (by simp [ho]) _ hk fun w0 G w N a hs ha => by
    obtain ⟨fs, fd, i, d, hu, hfd, hi, hd, hz, rfl, _, _⟩ := fldOf_spec hf
    obtain ⟨ad, he, hr⟩ := shift_rep (ha.ev hs.glob x) hp
    exact ⟨_, by simp [execOp, ho, Instr.fieldAt, run_under hu, hfd, he, Instr.sureAddr, fieldPlace, run_size hi, hz], hr⟩
theorem os_field {s : TypeId} {x : Operand} {f off size : Nat} {ag : Bool} {p : PV} {cs : List PV} (ho : o.op = .field s x f) (hf : fldOf P s f = some (off, size, ag)) (hx : ev Γ A x = .agg cs)
    (hp : if ag = true then off + size ≤ cs.length ∧ p = .agg ((cs.drop off).take size) else cs[off]? = some p) (hk : K p H) : OStep P Γ o A H K :=
  ostep_pure (by simp [ho]) _ hk fun w0 G w N a hs ha => by
    obtain ⟨fs, fd, i, d, hu, hfd, hi, hd, hz, rfl, rfl, rfl⟩ := fldOf_spec hf
    have hxr := ha.ev hs.glob x
    rw [hx] at hxr
    generalize hax : a.eval x = u at hxr
    cases hxr with
    | agg _ _ vs h1 h2 h3 =>
      have hra : (isAgg fd.type).run P w = .ok (aggD d) w := run_agg hd w
      by_cases hag : aggD d = true
      · rw [if_pos hag] at hp
        obtain ⟨hle, rfl⟩ := hp
        refine ⟨.agg (vs.extract fd.offset (fd.offset + i.size)), ?_, ?_⟩
        · simp [execOp, ho, Instr.field, run_under hu, hfd, hax, asAgg, part, hra, hag, run_size hi]
        · refine .agg _ _ _ (by simp; omega) (fun j c v hc hv => ?_) (fun j v hv => ?_)
          · rw [List.getElem?_take] at hc
            split at hc
            · rw [List.getElem?_drop] at hc
              rw [Array.getElem?_extract] at hv
              split at hv
              · exact h2 _ c v hc hv
              · cases hv
            · cases hc
          · rw [Array.getElem?_extract] at hv
            split at hv
            · exact h3 _ v hv
            · cases hv
      · rw [if_neg hag] at hp
        have hlt := (List.getElem?_eq_some_iff.1 hp).1
        have hlt' : fd.offset < vs.size := by omega
        have hag' : aggD d = false := by simpa using hag
        refine ⟨vs[fd.offset], ?_, h2 _ p _ hp (Array.getElem?_eq_getElem hlt')⟩
        simp [execOp, ho, Instr.field, run_under hu, hfd, hax, asAgg, part, hra, hag', hlt']
def elOf (P : Program) (t : TypeId) : Option (Nat × Nat) :=
  match P.underlying t with
  | some (.slice e) => match P.info? e with
    | some i => some (i.size, i.bytes)
    | none => none
  | _ => none
theorem elOf_spec {t : TypeId} {sz by' : Nat} (h : elOf P t = some (sz, by')) : ∃ e i, P.underlying t = some (.slice e) ∧ P.info? e = some i ∧ i.size = sz ∧ i.bytes = by' := by
  unfold elOf at h
  split at h
  · rename_i e hu
    split at h
    · rename_i i hi
      simp only [Option.some.injEq, Prod.mk.injEq] at h
      exact ⟨e, i, hu, hi, h.1, h.2⟩
    · cases h
  · cases h
def arOf (P : Program) (t : TypeId) : Option (Nat × Nat) :=
  match P.underlying t with
  | some (.array n e) => match P.info? e with
    | some i => some (n, i.size)
    | none => none
  | _ => none
theorem arOf_spec {t : TypeId} {n sz : Nat} (h : arOf P t = some (n, sz)) : ∃ e i, P.underlying t = some (.array n e) ∧ P.info? e = some i ∧ i.size = sz := by
  unfold arOf at h
  split at h
  · rename_i m e hu
    split at h
    · rename_i i hi
      simp only [Option.some.injEq, Prod.mk.injEq] at h
      obtain ⟨rfl, rfl⟩ := h
      exact ⟨e, i, hu, hi, rfl⟩
    · cases h
  · cases h
theorem os_index_vec {t : TypeId} {x ix : Operand} {sz by' : Nat} {es : List (List PV)} {f : Bool} {k : IntKind} {n : Int} {e : List PV} (ho : o.op = .indexAddr t x ix) (ht : elOf P t = some (sz, by'))
    (hx : ev Γ A x = .vec es f) (hi : ev Γ A ix = .int k n) (h0 : 0 ≤ n) (he : es[n.toNat]? = some e) (hsz : e.length = sz) (hk : K (.cptr e) H) : OStep P Γ o A H K :=
  ostep_pure (by simp [ho]) _ hk fun w0 G w N a hs ha => by
    obtain ⟨te, i, hu, hinf, rfl, _⟩ := elOf_spec ht
    have hxr := ha.ev hs.glob x
    rw [hx] at hxr
    have hir := ha.ev hs.glob ix
    rw [hi] at hir
    have hlt := (List.getElem?_eq_some_iff.1 he).1
    generalize hax : a.eval x = u at hxr
    cases hxr with
    | vec0 => simp at hlt
    | vec _ _ _ b q sz cap vs hn hc hf hss h1 h2 h3 =>
      have hse : sz = i.size := by rw [← hsz]; exact (hss e (List.mem_of_getElem? he)).symm
      refine ⟨.pointer (some ⟨b, q + n.toNat * i.size, none⟩), ?_, ?_⟩
      · have h1 : 0 ≤ n ∧ n < (es.length : Int) := ⟨h0, by omega⟩
        simp [execOp, ho, Instr.indexAt, hir.int_inv, asIntOf, run_under hu, hax, h1, run_size hinf, Fw.add_at]
      · subst hse
        refine .cptr _ _ b _ (fun j => vs (n.toNat * i.size + j)) (fun j c hj => ?_) (fun j c hj => h2 _ j e c he hj) (fun j c hj => h3 _ j e c he hj)
        rw [Nat.add_assoc]; exact h1 _ j e c he hj
theorem os_index_arr {t : TypeId} {x ix : Operand} {sz m : Nat} {k : IntKind} {n : Int} {p : PV} (ho : o.op = .indexAddr t x ix) (ht : arOf P t = some (m, sz))
    (hi : ev Γ A ix = .int k n) (h0 : 0 ≤ n) (hn : n < m) (hp : shift (ev Γ A x) (n.toNat * sz) = some p) (hk : K p H) : OStep P Γ o A H K :=
  ostep_pure (by simp [ho]) _ hk fun w0 G w N a hs ha => by
    obtain ⟨te, i, hu, hinf, rfl⟩ := arOf_spec ht
    obtain ⟨ad, he, hr⟩ := shift_rep (ha.ev hs.glob x) hp
    have hir := ha.ev hs.glob ix
    rw [hi] at hir
    refine ⟨_, ?_, hr⟩
    simp [execOp, ho, Instr.indexAt, hir.int_inv, asIntOf, run_under hu, he, Instr.sureAddr, h0, hn, run_size hinf]
theorem os_index_str {t : TypeId} {x ix : Operand} {s : List UInt8} {k : IntKind} {n : Int} {c : UInt8} (ho : o.op = .index t x ix) (ht : P.underlying t = some .string)
    (hx : ev Γ A x = .str s) (hi : ev Γ A ix = .int k n) (h0 : 0 ≤ n) (hc : s[n.toNat]? = some c) (hk : K (.int .u8 c.toNat) H) : OStep P Γ o A H K :=
  ostep_pure (by simp [ho]) _ hk fun w0 G w N a hs ha => by
    have hxr := ha.ev hs.glob x
    rw [hx] at hxr
    have hir := ha.ev hs.glob ix
    rw [hi] at hir
    refine ⟨_, ?_, .int _ _ _⟩
    have hlt := (List.getElem?_eq_some_iff.1 hc).1
    have hval := (List.getElem?_eq_some_iff.1 hc).2
    have hb : (⟨s.toArray⟩ : ByteArray)[n.toNat]? = some c := by
      have hsz : n.toNat < (⟨s.toArray⟩ : ByteArray).size := by simpa [ByteArray.size] using hlt
      rw [getElem?_pos (⟨s.toArray⟩ : ByteArray) n.toNat hsz]
      exact congrArg some hval
    simp [execOp, ho, Instr.index, hir.int_inv, hxr.str_inv, asIntOf, run_under ht, h0, hb]
end
end Go.Proofs.YtddnigahjahkbaaGreatDoor.Fw
namespace Go.Proofs.YtddnigahjahkbaaGreatDoor.Fw
set_option linter.unusedVariables false
set_option linter.unusedSimpArgs false
set_option maxRecDepth 100000
open Go.RowKit
def abin : BinOp → PV → PV → Option PV
  | .add, .int k a, .int k' b => if k = k' then some (.int k (k.wrap (a + b))) else none
  | .sub, .int k a, .int k' b => if k = k' then some (.int k (k.wrap (a - b))) else none
  | .mul, .int k a, .int k' b => if k = k' then some (.int k (k.wrap (a * b))) else none
  | .quo, .int k a, .int k' b => if k = k' ∧ b ≠ 0 then some (.int k (k.wrap (a.tdiv b))) else none
  | .rem, .int k a, .int k' b => if k = k' ∧ b ≠ 0 then some (.int k (a.tmod b)) else none
  | .and, .int k a, .int k' b => if k = k' then some (.int k (k.wrap (BitVec.ofInt k.bits a &&& BitVec.ofInt k.bits b).toNat)) else none
  | .or, .int k a, .int k' b => if k = k' then some (.int k (k.wrap (BitVec.ofInt k.bits a ||| BitVec.ofInt k.bits b).toNat)) else none
  | .xor, .int k a, .int k' b => if k = k' then some (.int k (k.wrap (BitVec.ofInt k.bits a ^^^ BitVec.ofInt k.bits b).toNat)) else none
  | .andNot, .int k a, .int k' b => if k = k' then some (.int k (k.wrap (BitVec.ofInt k.bits a &&& ~~~BitVec.ofInt k.bits b).toNat)) else none
  | .shl, .int k a, .int _ b => if 0 ≤ b then some (.int k (k.wrap (a * 2 ^ (min b.toNat k.bits)))) else none
  | .shr, .int k a, .int _ b => if 0 ≤ b then some (.int k (a.fdiv (2 ^ (min b.toNat k.bits)))) else none
  | .eql, .int k a, .int k' b => if k = k' then some (.bool (decide (a = b))) else none
  | .neq, .int k a, .int k' b => if k = k' then some (.bool (!decide (a = b))) else none
  | .lss, .int k a, .int k' b => if k = k' then some (.bool (decide (a < b))) else none
  | .leq, .int k a, .int k' b => if k = k' then some (.bool (decide (a ≤ b))) else none
  | .gtr, .int k a, .int k' b => if k = k' then some (.bool (decide (b < a))) else none
  | .geq, .int k a, .int k' b => if k = k' then some (.bool (decide (b ≤ a))) else none
  | .eql, .str a, .str b => some (.bool (decide (a = b)))
  | .neq, .str a, .str b => some (.bool (!decide (a = b)))
  | .lss, .str a, .str b => some (.bool (Op.bytesLess a b))
  | .leq, .str a, .str b => some (.bool (Op.bytesLess a b || decide (a = b)))
  | .gtr, .str a, .str b => some (.bool !(Op.bytesLess a b || decide (a = b)))
  | .geq, .str a, .str b => some (.bool !(Op.bytesLess a b))
  | .add, .str a, .str b => if a.length + b.length ≤ 9223372036854775807 then some (.str (a ++ b)) else none
  | _, _, _ => none
theorem i64_max : IntKind.i64.max = 9223372036854775807 := by decide
theorem bytes_append (a b : List UInt8) : (⟨a.toArray⟩ : ByteArray) ++ ⟨b.toArray⟩ = ⟨(a ++ b).toArray⟩ := by
  apply ByteArray.ext
  simp
section
variable {P : Program} {Γ : Nat → PV} {o : Oper} {A : List (Nat × PV)} {H : List Blk} {K : PV → List Blk → Prop}
theorem abin_run {op : BinOp} {t : TypeId} {x y : Operand} {p q r : PV} {u v : Value} {G : Ghost} {n : Nat} (h : abin op p q = some r) (hp : Rep G n p u) (hq : Rep G n q v) (w : World) :
    ∃ z, (do eqGuard op t x y u v; binOp op t u v : Sem Value).run P w = .ok z w ∧ Rep G n r z := by
  have beqS : ∀ a b : List UInt8, (a == b) = decide (a = b) := fun a b => by by_cases e : a = b <;> simp [e]
  have beqI : ∀ a b : Int, (a == b) = decide (a = b) := fun a b => by by_cases e : a = b <;> simp [e]
  have ints : ∀ (k k' : IntKind) (a b : Int) (c : Bool), c = true → p = .int k a → q = .int k' b → (c = true → ∃ z, (do eqGuard op t x y (.int k a) (.int k' b); binOp op t (.int k a) (.int k' b) : Sem Value).run P w = .ok z w ∧ Rep G n r z) →
      ∃ z, (do eqGuard op t x y u v; binOp op t u v : Sem Value).run P w = .ok z w ∧ Rep G n r z := by
    intro k k' a b c hc e1 e2 hh
    subst e1 e2
    have e1 := hp.int_inv
    have e2 := hq.int_inv
    subst e1 e2
    exact hh hc
  have strs : ∀ (a b : List UInt8), p = .str a → q = .str b → (∃ z, (do eqGuard op t x y (.string ⟨a.toArray⟩) (.string ⟨b.toArray⟩); binOp op t (.string ⟨a.toArray⟩) (.string ⟨b.toArray⟩) : Sem Value).run P w = .ok z w ∧ Rep G n r z) →
      ∃ z, (do eqGuard op t x y u v; binOp op t u v : Sem Value).run P w = .ok z w ∧ Rep G n r z := by
    intro a b e1 e2 hh
    subst e1 e2
    have e1 := hp.str_inv
    have e2 := hq.str_inv
    subst e1 e2
    exact hh
  unfold abin at h
  split at h
  iterate 3
    · rename_i k a k' b
      split at h
      · rename_i hk
        subst hk
        obtain rfl := Option.some.inj h
        exact ints k k a b true rfl rfl rfl fun _ => ⟨_, by simp [eqGuard, binOp, Op.intArith], .int _ _ _⟩
      · cases h
  iterate 2
    · rename_i k a k' b
      split at h
      · rename_i hk
        obtain ⟨rfl, hb⟩ := hk
        obtain rfl := Option.some.inj h
        exact ints k k a b true rfl rfl rfl fun _ => ⟨_, by simp [eqGuard, binOp, Op.intDiv, hb], .int _ _ _⟩
      · cases h
  iterate 4
    · rename_i k a k' b
      split at h
      · rename_i hk
        subst hk
        obtain rfl := Option.some.inj h
        exact ints k k a b true rfl rfl rfl fun _ => ⟨_, by simp [eqGuard, binOp, Op.intBits], .int _ _ _⟩
      · cases h
  iterate 2
    · rename_i k a k' b
      split at h
      · rename_i hk
        obtain rfl := Option.some.inj h
        have hb : ¬ b < 0 := by omega
        exact ints k k' a b true rfl rfl rfl fun _ => ⟨_, by simp [eqGuard, binOp, Op.shift, hb], .int _ _ _⟩
      · cases h
  iterate 6
    · rename_i k a k' b
      split at h
      · rename_i hk
        subst hk
        obtain rfl := Option.some.inj h
        exact ints k k a b true rfl rfl rfl fun _ => ⟨_, by simp [eqGuard, binOp, Op.intCmp, beqI, bne], .bool _ _⟩
      · cases h
  iterate 6
    · rename_i a b
      obtain rfl := Option.some.inj h
      exact strs a b rfl rfl ⟨_, by simp [eqGuard, binOp, Op.stringOp, beqS], .bool _ _⟩
  · rename_i a b
    split at h
    · rename_i hl
      obtain rfl := Option.some.inj h
      refine strs a b rfl rfl ⟨_, ?_, .str _ _ (by rw [List.length_append]; exact hl)⟩
      have hl' : ¬ (((⟨a.toArray⟩ : ByteArray).size + (⟨b.toArray⟩ : ByteArray).size : Nat) : Int) > IntKind.i64.max := by
        rw [i64_max]; simp [ByteArray.size]; omega
      simp [eqGuard, binOp, Op.stringOp, if_neg hl', bytes_append]
      simp at hl'
      omega
    · cases h
  · cases h
theorem os_bin {op : BinOp} {t ty : TypeId} {x y : Operand} {p : PV} (ho : o.op = .binOp op t x y ty) (h : abin op (ev Γ A x) (ev Γ A y) = some p) (hk : K p H) : OStep P Γ o A H K :=
  ostep_pure (by simp [ho]) _ hk fun w0 G w N a hs ha => by
    obtain ⟨z, hz, hr⟩ := abin_run (P := P) (t := t) (x := x) (y := y) h (ha.ev hs.glob x) (ha.ev hs.glob y) w
    refine ⟨z, ?_, hr⟩
    simp only [execOp, ho, Sem.run_bind] at hz ⊢
    rw [hz]
    rfl
end
end Go.Proofs.YtddnigahjahkbaaGreatDoor.Fw
namespace Go.Proofs.YtddnigahjahkbaaGreatDoor.Fw
set_option linter.unusedVariables false
set_option linter.unusedSimpArgs false
set_option maxRecDepth 100000
open Go.RowKit
theorem equal_of {P : Program} {t : TypeId} {x y : Value} {b : Bool} {w : World} (h : ∀ d, (Op.equalIn (d + 1) t x y).run P w = .ok b w) : (Op.equal t x y).run P w = .ok b w := h 9999
section
variable {P : Program} {Γ : Nat → PV} {o : Oper} {A : List (Nat × PV)} {H : List Blk} {K : PV → List Blk → Prop}
def eqv (op : BinOp) (b : Bool) : Option PV :=
  match op with
  | .eql => some (.bool b)
  | .neq => some (.bool !b)
  | _ => none
theorem eq_run {op : BinOp} {t : TypeId} {x y : Operand} {u v : Value} {b : Bool} {r : PV} {w : World} (hg : (eqGuard op t x y u v).run P w = .ok () w) (hb : ∀ op, op = .eql ∨ op = .neq → binOp op t u v = (match op with
      | .eql => (do pure (.bool (← Op.equal t u v)) : Sem Value) | _ => (do pure (.bool (!(← Op.equal t u v))) : Sem Value)))
    (he : (Op.equal t u v).run P w = .ok b w) (hr : eqv op b = some r) (G : Ghost) (n : Nat) : ∃ z, (do eqGuard op t x y u v; binOp op t u v : Sem Value).run P w = .ok z w ∧ Rep G n r z := by
  unfold eqv at hr
  split at hr
  · obtain rfl := Option.some.inj hr
    exact ⟨.bool b, by rw [Sem.run_bind, hg, hb _ (.inl rfl)]; simp [he], .bool _ _⟩
  · obtain rfl := Option.some.inj hr
    exact ⟨.bool !b, by rw [Sem.run_bind, hg, hb _ (.inr rfl)]; simp [he], .bool _ _⟩
  · cases hr
theorem os_eqb {op : BinOp} {t ty : TypeId} {x y : Operand} {b c : Bool} {p : PV} (ho : o.op = .binOp op t x y ty) (ht : P.underlying t = some .bool) (hx : ev Γ A x = .bool b) (hy : ev Γ A y = .bool c)
    (h : eqv op (b == c) = some p) (hk : K p H) : OStep P Γ o A H K :=
  ostep_pure (by simp [ho]) _ hk fun w0 G w N a hs ha => by
    have h1 := ha.ev hs.glob x
    have h2 := ha.ev hs.glob y
    rw [hx] at h1; rw [hy] at h2
    have e1 := h1.bool_inv
    have e2 := h2.bool_inv
    obtain ⟨z, hz, hr⟩ := eq_run (P := P) (op := op) (t := t) (x := x) (y := y) (u := .bool b) (v := .bool c) (w := w) (b := b == c) (by cases op <;> simp [eqGuard]) (fun op ho => by rcases ho with rfl | rfl <;> simp [binOp])
      (equal_of fun d => by simp [Op.equalIn, run_under ht]) h G H.length
    refine ⟨z, ?_, hr⟩
    simp only [execOp, ho, Sem.run_bind, e1, e2] at hz ⊢
    rw [hz]; rfl
def isNil : TypeDesc → PV → Option Bool
  | .pointer _, .nilp => some true
  | .pointer _, .ptr _ _ => some false
  | .pointer _, .cptr _ => some false
  | .pointer _, .eptr _ _ _ => some false
  | .map _ _, .nilm => some true
  | .map _ _, .map _ => some false
  | .func _ _ _, .nilf => some true
  | .func _ _ _, .func _ _ _ => some false
  | .interface _, .nili => some true
  | .interface _, .iface _ _ => some false
  | .slice _, .vec (_ :: _) _ => some false
  | _, _ => none
def nilC : TypeDesc → Value
  | .pointer _ => .pointer none
  | .map _ _ => .map none
  | .func _ _ _ => .nilFunc
  | .slice _ => .slice none 0 0
  | _ => .nilIface
theorem os_nil {op : BinOp} {t ty : TypeId} {x : Operand} {d : TypeDesc} {c : Value} {b : Bool} {p : PV} (ho : o.op = .binOp op t x (.const c) ty) (ht : P.underlying t = some d) (hc : c = nilC d) (hx : isNil d (ev Γ A x) = some b)
    (h : eqv op b = some p) (hk : K p H) : OStep P Γ o A H K :=
  ostep_pure (by simp [ho]) _ hk fun w0 G w N a hs ha => by
    have h1 := ha.ev hs.glob x
    subst hc
    have key : ∃ z, (do eqGuard op t x (.const (nilC d)) (a.eval x) (nilC d); binOp op t (a.eval x) (nilC d) : Sem Value).run P w = .ok z w ∧ Rep G H.length p z := by
      generalize a.eval x = u at h1 ⊢
      generalize ev Γ A x = q at h1 hx
      unfold isNil at hx
      split at hx <;> first
        | (obtain rfl := Option.some.inj hx
           cases h1
           all_goals
             refine eq_run ?_ (fun op ho => by rcases ho with rfl | rfl <;> simp [binOp, nilC]) ?_ h G H.length
             · cases op <;> simp [eqGuard, nilC]
             · exact equal_of fun d => by simp [Op.equalIn, run_under ht, nilC])
        | cases hx
    obtain ⟨z, hz, hr⟩ := key
    refine ⟨z, ?_, hr⟩
    simp only [execOp, ho, Sem.run_bind] at hz ⊢
    have : a.eval (.const (nilC d)) = nilC d := rfl
    rw [this, hz]; rfl
theorem os_not {t : TypeId} {x : Operand} {b : Bool} (ho : o.op = .unOp .not t x) (hx : ev Γ A x = .bool b) (hk : K (.bool !b) H) : OStep P Γ o A H K :=
  ostep_pure (by simp [ho]) _ hk fun w0 G w N a hs ha => by
    have h1 := ha.ev hs.glob x
    rw [hx] at h1
    exact ⟨_, by simp [execOp, ho, h1.bool_inv, Op.unary], .bool _ _⟩
theorem os_neg {t : TypeId} {x : Operand} {k : IntKind} {n : Int} (ho : o.op = .unOp .neg t x) (hx : ev Γ A x = .int k n) (hk : K (.int k (k.wrap (0 - n))) H) : OStep P Γ o A H K :=
  ostep_pure (by simp [ho]) _ hk fun w0 G w N a hs ha => by
    have h1 := ha.ev hs.glob x
    rw [hx] at h1
    refine ⟨.int k (k.wrap (0 - n)), ?_, .int _ _ _⟩
    simp only [execOp, ho, h1.int_inv, Op.unary, Op.intArith]
    rfl
theorem os_nilCheck {x : Operand} (ho : o.op = .nilCheck x) (hx : (∃ b q, ev Γ A x = .ptr b q) ∨ (∃ cs, ev Γ A x = .cptr cs) ∨ (∃ b q l, ev Γ A x = .eptr b q l)) (hk : K (ev Γ A x) H) : OStep P Γ o A H K :=
  ostep_pure (by simp [ho]) _ hk fun w0 G w N a hs ha => by
    have h1 := ha.ev hs.glob x
    refine ⟨a.eval x, ?_, h1⟩
    generalize ev Γ A x = q at h1 hx
    generalize hv : a.eval x = v at h1
    have key : ∃ ad, v = .pointer (some ad) := by
      rcases hx with ⟨b, q', rfl⟩ | ⟨cs, rfl⟩ | ⟨b, q', l, rfl⟩ <;> cases h1 <;> exact ⟨_, rfl⟩
    obtain ⟨ad, rfl⟩ := key
    simp [execOp, ho, hv]
theorem os_conv {src dst : TypeId} {x : Operand} {d : TypeDesc} {k k' : IntKind} {n : Int} (ho : o.op = .convert src dst x) (hs' : P.underlying src = some d) (hd : P.underlying dst = some (.int k')) (hx : ev Γ A x = .int k n)
    (hk : K (.int k' (k'.wrap n)) H) : OStep P Γ o A H K :=
  ostep_pure (by simp [ho]) _ hk fun w0 G w N a hs ha => by
    have h1 := ha.ev hs.glob x
    rw [hx] at h1
    exact ⟨_, by simp [execOp, ho, h1.int_inv, convert, run_under hs', run_under hd, Conv.intToInt], .int _ _ _⟩
theorem os_convStr {src dst : TypeId} {x : Operand} {d : TypeDesc} {s : List UInt8} (ho : o.op = .convert src dst x) (hs' : P.underlying src = some d) (hd : P.underlying dst = some .string) (hx : ev Γ A x = .str s)
    (hk : K (.str s) H) : OStep P Γ o A H K :=
  ostep_pure (by simp [ho]) _ hk fun w0 G w N a hs ha => by
    have h1 := ha.ev hs.glob x
    rw [hx] at h1
    exact ⟨_, by simp [execOp, ho, h1.str_inv, convert, run_under hs', run_under hd], .str _ _ h1.str_len⟩
theorem os_iface {t : TypeId} {x : Operand} {d : TypeDesc} (ho : o.op = .makeInterface t x) (ht : P.underlying t = some d) (hd : ∀ ms, d ≠ .interface ms) (hk : K (.iface t (ev Γ A x)) H) : OStep P Γ o A H K :=
  ostep_pure (by simp [ho]) _ hk fun w0 G w N a hs ha => by
    refine ⟨.iface t (a.eval x), ?_, .iface _ _ _ _ (ha.ev hs.glob x)⟩
    have h : (Instr.makeInterface t (a.eval x)).run P w = .ok (.iface t (a.eval x)) w := by
      simp only [Instr.makeInterface, Sem.run_bind, run_under ht, Result.andThen_ok]
      cases d <;> first | rfl | (rename_i ms; exact absurd rfl (hd ms))
    simp [execOp, ho, h]
theorem os_assert {t ty : TypeId} {x : Operand} {d : TypeDesc} {u : TypeId} {p : PV} (ho : o.op = .typeAssert x ty t true) (ht : P.underlying t = some d) (hd : ∀ ms, d ≠ .interface ms) (hx : ev Γ A x = .iface u p) (hu : u = t)
    (hk : K (.tup [p, .bool true]) H) : OStep P Γ o A H K :=
  ostep_pure (by simp [ho]) _ hk fun w0 G w N a hs ha => by
    have h1 := ha.ev hs.glob x
    rw [hx] at h1
    subst hu
    generalize hax : a.eval x = v at h1
    cases h1 with
    | iface _ _ _ v h =>
      refine ⟨.tuple #[v, .bool true], ?_, .tup _ _ _ rfl (fun i c u hc hu => ?_)⟩
      · have hh : (Instr.typeAssert (.iface u v) ty u true).run P w = .ok (.tuple #[v, .bool true]) w := by
          simp only [Instr.typeAssert, Sem.run_bind, run_under ht, Result.andThen_ok]
          cases d <;> first | (simp; done) | (rename_i ms; exact absurd rfl (hd ms))
        simp [execOp, ho, hax, hh]
      · match i with
        | 0 => simp at hc hu; subst hc hu; exact h
        | 1 => simp at hc hu; subst hc hu; exact .bool _ _
        | i + 2 => simp at hc
theorem os_assertNot {t ty : TypeId} {x : Operand} {d : TypeDesc} {u : TypeId} {p : PV} {ti : TI} (ho : o.op = .typeAssert x ty t true) (ht : P.underlying t = some d) (hd : ∀ ms, d ≠ .interface ms) (hti : tiOf P t = some ti) (hx : ev Γ A x = .iface u p) (hu : u ≠ t)
    (hk : K (.tup [.any, .bool false]) H) : OStep P Γ o A H K :=
  ostep_pure (by simp [ho]) _ hk fun w0 G w N a hs ha => by
    obtain ⟨i, d', z, hi, hd', hz, _⟩ := tiOf_spec hti
    have h1 := ha.ev hs.glob x
    rw [hx] at h1
    generalize hax : a.eval x = v at h1
    cases h1 with
    | iface _ _ _ v h =>
      refine ⟨.tuple #[z, .bool false], ?_, .tup _ _ _ rfl (fun i c u hc hu => ?_)⟩
      · have hh : (Instr.typeAssert (.iface u v) ty t true).run P w = .ok (.tuple #[z, .bool false]) w := by
          simp only [Instr.typeAssert, Sem.run_bind, run_under ht, Result.andThen_ok]
          cases d <;> first | (simp [hu, run_zero hi hz]; done) | (rename_i ms; exact absurd rfl (hd ms))
        simp [execOp, ho, hax, hh]
      · match i with
        | 0 => simp at hc hu; subst hc hu; exact .any _ _
        | 1 => simp at hc hu; subst hc hu; exact .bool _ _
        | i + 2 => simp at hc
theorem os_extract {x : Operand} {i : Nat} {ps : List PV} {p : PV} (ho : o.op = .extract x i) (hx : ev Γ A x = .tup ps) (hp : ps[i]? = some p) (hk : K p H) : OStep P Γ o A H K :=
  ostep_pure (by simp [ho]) _ hk fun w0 G w N a hs ha => by
    have h1 := ha.ev hs.glob x
    rw [hx] at h1
    generalize hax : a.eval x = v at h1
    cases h1 with
    | tup _ _ vs hl h =>
      have hlt := (List.getElem?_eq_some_iff.1 hp).1
      have hv : vs[i]? = some (vs[i]'(by omega)) := Array.getElem?_eq_getElem (by omega)
      exact ⟨_, by simp [execOp, ho, hax, Instr.extract, hv], h i p _ hp hv⟩
theorem map_ev {G : Ghost} {w0 w : World} {N : Nat} {a : Act} (hs : Sim Γ w0 G H w) (ha : ASim G H.length N A a) (xs : Array Operand) :
    (xs.toList.map (ev Γ A)).length = (xs.map a.eval).size ∧ ∀ (i : Nat) c v, (xs.toList.map (ev Γ A))[i]? = some c → (xs.map a.eval)[i]? = some v → Rep G H.length c v := by
  refine ⟨by simp, fun i c v hc hv => ?_⟩
  rw [List.getElem?_map, Array.getElem?_toList] at hc
  rw [Array.getElem?_map] at hv
  cases hx : xs[i]? with
  | none => rw [hx] at hc; cases hc
  | some x =>
    rw [hx] at hc hv
    obtain rfl := Option.some.inj hc
    obtain rfl := Option.some.inj hv
    exact ha.ev hs.glob x
theorem os_func {fn : Fn} {fs cs : Array Operand} (ho : o.op = .makeFunc fn fs cs) (hk : K (.func fn (fs.toList.map (ev Γ A)) (cs.toList.map (ev Γ A))) H) : OStep P Γ o A H K :=
  ostep_pure (by simp [ho]) _ hk fun w0 G w N a hs ha =>
    ⟨_, by simp [execOp, ho, Instr.makeFunc], .func _ _ _ _ _ _ (map_ev hs ha fs).1 (map_ev hs ha cs).1 (map_ev hs ha fs).2 (map_ev hs ha cs).2⟩
def abuild (place : Nat → Option (Nat × Nat)) : List PV → List (Nat × PV) → Option (List PV)
  | cs, [] => some cs
  | cs, (i, p) :: r =>
    match place i with
    | none => none
    | some (off, size) => if p.shaped = true ∧ p.cells.length = size ∧ off + size ≤ cs.length then abuild place (splice cs off p.cells) r else none
theorem foldl_put (vs : List Value) : ∀ (cs : Array Value) (off k : Nat), off + k + vs.length ≤ cs.size →
    ((vs.zipIdx k).foldl (fun cs (x : Value × Nat) => cs.setIfInBounds (off + x.2) x.1) cs).toList = cs.toList.take (off + k) ++ vs ++ cs.toList.drop (off + k + vs.length) := by
  induction vs with
  | nil => intro cs off k h; simp
  | cons v vs ih =>
    intro cs off k h
    simp only [List.length_cons] at h
    simp only [List.zipIdx_cons, List.foldl_cons]
    rw [ih _ off (k + 1) (by simp; omega)]
    apply List.ext_getElem?
    intro i
    have e1 := get_splice cs.toList (v :: vs) (off + k) i (by simp; omega)
    have e2 := get_splice (cs.setIfInBounds (off + k) v).toList vs (off + (k + 1)) i (by simp; omega)
    rw [e1, e2]
    simp only [Array.toList_setIfInBounds, List.length_cons]
    by_cases c1 : i < off + k
    · rw [if_pos (by omega), if_pos c1, List.getElem?_set_ne (by omega)]
    · rw [if_neg c1]
      by_cases c2 : i = off + k
      · subst c2
        rw [if_pos (by omega), if_pos (by omega), List.getElem?_set_self (by simp; omega)]
        simp
      · rw [if_neg (by omega)]
        by_cases c3 : i < off + (k + 1) + vs.length
        · rw [if_pos c3, if_pos (by omega)]
          obtain ⟨j, rfl⟩ : ∃ j, i = off + k + 1 + j := ⟨i - (off + k + 1), by omega⟩
          rw [show off + k + 1 + j - (off + (k + 1)) = j by omega, show off + k + 1 + j - (off + k) = j + 1 by omega, List.getElem?_cons_succ]
        · rw [if_neg c3, if_neg (by omega), List.getElem?_set_ne (by omega)]
theorem fill_spec {G : Ghost} {n : Nat} {place place' : Nat → Option (Nat × Nat)} : ∀ (parts : List (Nat × PV)) (vals : List (Nat × Value)) (cs cs' : List PV) (C : Array Value), (∀ i, place' i = place i) →
    parts.length = vals.length → (∀ (j : Nat) i p i' v, parts[j]? = some (i, p) → vals[j]? = some (i', v) → i' = i ∧ Rep G n p v) →
    Reps G n cs C.toList → (∀ (j : Nat) u, C[j]? = some u → u.oneCell' = true) → abuild place cs parts = some cs' →
    ∃ C', Instr.fill place' C vals = some C' ∧ Reps G n cs' C'.toList ∧ ∀ (j : Nat) u, C'[j]? = some u → u.oneCell' = true
  | [], [], cs, cs', C, _, _, _, hc, h1, h => by
    simp only [abuild, Option.some.injEq] at h
    subst h
    exact ⟨C, rfl, hc, h1⟩
  | [], _ :: _, _, _, _, _, hl, _, _, _, _ => by simp at hl
  | _ :: _, [], _, _, _, _, hl, _, _, _, _ => by simp at hl
  | (i, p) :: parts, (i', v) :: vals, cs, cs', C, hpl, hl, hv, hc, h1, h => by
    obtain ⟨rfl, hr⟩ := hv 0 i p i' v rfl rfl
    simp only [abuild] at h
    cases hp : place i' with
    | none => rw [hp] at h; cases h
    | some os =>
      obtain ⟨off, size⟩ := os
      rw [hp] at h
      simp only at h
      split at h
      · rename_i hcond
        obtain ⟨hsh, hsz, hle⟩ := hcond
        have hcells := hr.cells (PV.shaped_iff hsh)
        have hvl : p.cells.length = v.cells.size := hcells.1.1.trans Array.length_toList
        have hcl : cs.length = C.size := hc.1.trans Array.length_toList
        have hfold := foldl_put v.cells.toList C off 0 (by simp; omega)
        simp only [Nat.add_zero] at hfold
        have hz : v.cells.zipIdx.foldl (fun cs (x : Value × Nat) => cs.setIfInBounds (off + x.2) x.1) C = (v.cells.toList.zipIdx 0).foldl (fun cs (x : Value × Nat) => cs.setIfInBounds (off + x.2) x.1) C := by
          rw [← Array.foldl_toList, Array.toList_zipIdx]
        have hreps := hc.splice (q := off) hcells.1 (by omega)
        obtain ⟨C', hC', hr', h1'⟩ := fill_spec parts vals (splice cs off p.cells) cs' (v.cells.zipIdx.foldl (fun cs (x : Value × Nat) => cs.setIfInBounds (off + x.2) x.1) C) hpl (by simpa using hl)
          (fun j i p i' v hj hj' => hv (j + 1) i p i' v (by simpa using hj) (by simpa using hj')) (by rw [hz, hfold]; exact hreps) (fun j u hu => by
            rw [hz] at hu
            have hu' : (C.toList.take off ++ v.cells.toList ++ C.toList.drop (off + v.cells.toList.length))[j]? = some u := by rw [← hfold, Array.getElem?_toList]; exact hu
            rw [get_splice _ _ _ _ (by simp; omega)] at hu'
            split at hu'
            · exact h1 j u (by simpa using hu')
            · split at hu'
              · exact hcells.2 _ u (by simpa using hu')
              · exact h1 j u (by simpa using hu')) h
        refine ⟨C', ?_, hr', h1'⟩
        rw [← hC']
        simp only [Instr.fill, hpl, hp]
        rw [if_neg (by simp; omega)]
      · cases h
def plOf (P : Program) (t : TypeId) : Option (List (Nat × Nat)) :=
  match P.underlying t with
  | some (.struct fs) => fs.toList.mapM fun f => (P.info? f.type).map fun i => (f.offset, i.size)
  | _ => none
theorem plOf_run {t : TypeId} {pl : List (Nat × Nat)} (h : plOf P t = some pl) : ∃ fs, P.underlying t = some (.struct fs) ∧
    ∀ w, (fs.mapM fun f => do pure (f.offset, ← sizeOf f.type) : Sem (Array (Nat × Nat))).run P w = .ok pl.toArray w := by
  unfold plOf at h
  split at h
  · rename_i fs hu
    refine ⟨fs, hu, fun w => ?_⟩
    rw [Array.mapM_eq_mapM_toList]
    have key : ∀ (g : Field → Sem (Nat × Nat)), (∀ f i, P.info? f.type = some i → (g f).run P w = .ok (f.offset, i.size) w) → ∀ (l : List Field) (pl : List (Nat × Nat)), (l.mapM fun f => (P.info? f.type).map fun i => (f.offset, i.size)) = some pl →
        (l.mapM g).run P w = .ok pl w := by
      intro g hg l
      induction l with
      | nil => intro pl h; simp at h; subst h; simp
      | cons f l ih =>
        intro pl h
        rw [List.mapM_cons] at h ⊢
        cases hi : P.info? f.type with
        | none => simp [hi] at h
        | some i =>
          cases hl : (l.mapM fun f => (P.info? f.type).map fun i => (f.offset, i.size)) with
          | none => simp [hi, hl] at h
          | some r =>
            simp [hi, hl] at h
            subst h
            simp [hg f i hi, ih r hl]
    have := key (fun f => do pure (f.offset, ← sizeOf f.type)) (fun f i hi => by simp [run_size hi]) fs.toList pl h
    rw [Sem.run_map, this]
    rfl
  · cases h
theorem os_build {t : TypeId} {parts : Array (Nat × Operand)} {ti : TI} {pl : List (Nat × Nat)} {cs : List PV} (ho : o.op = .build t parts) (ht : tiOf P t = some ti) (hp : plOf P t = some pl)
    (hb : abuild (fun i => pl[i]?) ti.zero (parts.toList.map fun x => (x.1, ev Γ A x.2)) = some cs) (hk : K (.agg cs) H) : OStep P Γ o A H K :=
  ostep_pure (by simp [ho]) _ hk fun w0 G w N a hs ha => by
    obtain ⟨i, d, z, hi, hd, hz, hzs, hsz, _, h1, hagg, hzero⟩ := tiOf_spec ht
    obtain ⟨fs, hu, hpl⟩ := plOf_run hp
    have hzr : Reps G H.length ti.zero z.cells.toList := by
      rw [hzero]
      refine ⟨by simp, fun j p v hp hv => ?_⟩
      rw [List.getElem?_map, hv] at hp
      obtain rfl := Option.some.inj hp
      exact ofC_rep _ _ _
    obtain ⟨C', hC', hr, h1'⟩ := fill_spec (place := fun i => pl[i]?) (place' := fun i => pl.toArray[i]?) (parts.toList.map fun x => (x.1, ev Γ A x.2)) (parts.toList.map fun x => (x.1, a.eval x.2)) ti.zero cs z.cells (fun i => by simp) (by simp)
      (fun j i p i' v hj hj' => by
        rw [List.getElem?_map] at hj hj'
        cases hx : parts.toList[j]? with
        | none => rw [hx] at hj; cases hj
        | some x =>
          rw [hx] at hj hj'
          simp only [Option.map_some, Option.some.injEq, Prod.mk.injEq] at hj hj'
          obtain ⟨rfl, rfl⟩ := hj
          obtain ⟨rfl, rfl⟩ := hj'
          exact ⟨rfl, ha.ev hs.glob x.2⟩) hzr h1 hb
    refine ⟨.agg C', ?_, .agg _ _ _ (hr.1.trans Array.length_toList) (fun j c v hc hv => hr.2 j c v hc (by simpa using hv)) h1'⟩
    simp only [execOp, ho, Instr.build, Sem.run_bind, run_zero hi hz, run_under hu, Result.andThen_ok, hpl, Array.toList_map]
    rw [show (fun x : Nat => pl.toArray[x]?) = (fun i => pl.toArray[i]?) from rfl, hC']
    rfl
end
end Go.Proofs.YtddnigahjahkbaaGreatDoor.Fw
namespace Go.Proofs.YtddnigahjahkbaaGreatDoor.Fw
set_option linter.unusedVariables false
set_option linter.unusedSimpArgs false
set_option maxRecDepth 100000
open Go.RowKit
theorem flatten_at {α : Type} {sz : Nat} : ∀ {es : List (List α)} {k : Nat} {c : α}, (∀ e ∈ es, e.length = sz) → es.flatten[k]? = some c → ∃ i j e, k = i * sz + j ∧ es[i]? = some e ∧ e[j]? = some c
  | [], _, _, _, h => by simp at h
  | e :: es, k, c, hs, h => by
    rw [List.flatten_cons] at h
    have he := hs e (by simp)
    by_cases hk : k < e.length
    · rw [List.getElem?_append_left hk] at h
      exact ⟨0, k, e, by simp, rfl, h⟩
    · rw [List.getElem?_append_right (by omega)] at h
      obtain ⟨i, j, e', h1, h2, h3⟩ := flatten_at (fun e he => hs e (by simp [he])) h
      exact ⟨i + 1, j, e', by rw [Nat.succ_mul]; omega, by simpa using h2, h3⟩
theorem flatten_len {α : Type} {sz : Nat} : ∀ {es : List (List α)}, (∀ e ∈ es, e.length = sz) → es.flatten.length = es.length * sz
  | [], _ => by simp
  | e :: es, hs => by
    rw [List.flatten_cons, List.length_append, hs e (by simp), flatten_len (fun e he => hs e (by simp [he])), List.length_cons, Nat.succ_mul]; omega
theorem flatten_get {α : Type} {sz : Nat} : ∀ {es : List (List α)} {i j : Nat} {e : List α} {c : α}, (∀ e ∈ es, e.length = sz) → es[i]? = some e → e[j]? = some c → es.flatten[i * sz + j]? = some c
  | [], _, _, _, _, _, h, _ => by simp at h
  | e' :: es, 0, j, e, c, hs, h, h' => by
    simp at h; subst h
    have := (List.getElem?_eq_some_iff.1 h').1
    rw [List.flatten_cons, Nat.zero_mul, Nat.zero_add, List.getElem?_append_left this]; exact h'
  | e' :: es, i + 1, j, e, c, hs, h, h' => by
    have he := hs e' (by simp)
    rw [List.flatten_cons, List.getElem?_append_right (by rw [Nat.succ_mul]; omega), Nat.succ_mul, he]
    rw [show i * sz + sz + j - sz = i * sz + j by omega]
    exact flatten_get (fun e he => hs e (by simp [he])) (by simpa using h) h'
section
variable {P : Program} {Γ : Nat → PV} {o : Oper} {A : List (Nat × PV)} {H : List Blk} {K : PV → List Blk → Prop}
theorem vec_cells {w0 : World} {G : Ghost} {w : World} {n sz : Nat} {es : List (List PV)} {f : Bool} {v : Value} (hs : Sim Γ w0 G H w) (h : Rep G n (.vec es f) v) (hsz : ∀ e ∈ es, e.length = sz) :
    ∃ ad cap, v = .slice ad es.length cap ∧ es.length ≤ cap ∧ (f = true → cap = es.length) ∧ (0 < es.length → ad.isSome = true) ∧
      ∃ C : Array Value, (Builtin.firstCells sz es.length v).run P w = .ok C w ∧ Reps G 0 es.flatten C.toList ∧ ∀ (j : Nat) u, C[j]? = some u → u.oneCell' = true := by
  cases h with
  | vec0 _ _ a => exact ⟨a, 0, rfl, Nat.le_refl _, fun _ => rfl, fun h => (by simp at h), #[], by
    cases a with
    | none => simp [Builtin.firstCells]
    | some ad => simpa using run_firstCells_some (P := P) w sz 0 ad 0 0 [] (by simp) (fun j v h => by simp at h), Reps.nil _ _, fun j u h => (by simp at h)⟩
  | vec _ _ _ b q sz' cap vs hn hc hf hss h1 h2 h3 =>
    refine ⟨some ⟨b, q, none⟩, cap, rfl, hc, hf, fun _ => rfl, ((List.range (es.length * sz)).map vs).toArray, ?_, ?_, ?_⟩
    · refine run_firstCells_some w sz es.length ⟨b, q, none⟩ es.length cap ((List.range (es.length * sz)).map vs) (by simp) (fun j v hj => ?_)
      rw [Fw.add_at]
      have hlt : j < es.length * sz := by
        have := (List.getElem?_eq_some_iff.1 hj).1
        simpa using this
      have hv : v = vs j := by
        rw [List.getElem?_map, List.getElem?_range hlt] at hj
        exact (Option.some.inj hj).symm
      have hfl : j < es.flatten.length := by rw [flatten_len hsz]; exact hlt
      obtain ⟨i, k, e, rfl, hi, hk⟩ := flatten_at hsz (List.getElem?_eq_getElem hfl)
      have hse : sz' = sz := by rw [← hsz e (List.mem_of_getElem? hi)]; exact (hss e (List.mem_of_getElem? hi)).symm
      subst hse hv
      exact hs.mem _ _ (h1 i k e _ hi hk)
    · refine ⟨by simp [flatten_len hsz], fun j c v hc' hv => ?_⟩
      obtain ⟨i, k, e, rfl, hi, hk⟩ := flatten_at hsz hc'
      have hse : sz' = sz := by rw [← hsz e (List.mem_of_getElem? hi)]; exact (hss e (List.mem_of_getElem? hi)).symm
      subst hse
      have hlt := (List.getElem?_eq_some_iff.1 hv).1
      simp only [List.length_map, List.length_range] at hlt
      rw [List.getElem?_map, List.getElem?_range (by simpa using hlt)] at hv
      obtain rfl := Option.some.inj hv
      exact h2 i k e c hi hk
    · intro j u hu
      have hlt : j < es.length * sz := by
        have := (Array.getElem?_eq_some_iff.1 hu).1
        simpa using this
      have hv : u = vs j := by
        have hu' : ((List.range (es.length * sz)).map vs)[j]? = some u := by simpa using hu
        rw [List.getElem?_map, List.getElem?_range hlt] at hu'
        exact (Option.some.inj hu').symm
      have hfl : j < es.flatten.length := by rw [flatten_len hsz]; exact hlt
      obtain ⟨i, k, e, rfl, hi, hk⟩ := flatten_at hsz (List.getElem?_eq_getElem hfl)
      have hse : sz' = sz := by rw [← hsz e (List.mem_of_getElem? hi)]; exact (hss e (List.mem_of_getElem? hi)).symm
      subst hse hv
      exact h3 i k e _ hi hk
theorem Rep.vec_of {G : Ghost} {n g q sz cap : Nat} {es : List (List PV)} {f : Bool} (C : Nat → Option Value) (hM : ∀ j, j < es.length * sz → G.M ⟨g, q + j, none⟩ = C j) (hsz : ∀ e ∈ es, e.length = sz)
    (hr : ∀ (j : Nat) c, es.flatten[j]? = some c → ∃ u, C j = some u ∧ Rep G 0 c u ∧ u.oneCell' = true) (hn : es.length ≤ 9223372036854775807) (hc : es.length ≤ cap) (hf : f = true → cap = es.length) : Rep G n (.vec es f) (.slice (some ⟨g, q, none⟩) es.length cap) := by
  have key : ∀ (i j : Nat) e c, es[i]? = some e → e[j]? = some c → i * sz + j < es.length * sz ∧ es.flatten[i * sz + j]? = some c := by
    intro i j e c hi hj
    have h := flatten_get hsz hi hj
    have := (List.getElem?_eq_some_iff.1 h).1
    rw [flatten_len hsz] at this
    exact ⟨this, h⟩
  refine .vec n es f g q sz cap (fun j => (C j).getD undef) hn hc hf hsz (fun i j e c hi hj => ?_) (fun i j e c hi hj => ?_) (fun i j e c hi hj => ?_)
  all_goals
    obtain ⟨hlt, hfl⟩ := key i j e c hi hj
    obtain ⟨u, hu, h1, h2⟩ := hr _ c hfl
  · rw [hM _ hlt, hu]; rfl
  · rw [hu]; exact h1
  · rw [hu]; exact h2
theorem Sim.newVec {w0 : World} {G : Ghost} {w : World} (h : Sim Γ w0 G H w) (C : Array Value) (e : TypeId) {es : List (List PV)} {sz cap : Nat} {f : Bool} (hsz : ∀ e ∈ es, e.length = sz)
    (hr : ∀ (j : Nat) c, es.flatten[j]? = some c → ∃ u, C[j]? = some u ∧ Rep G 0 c u ∧ u.oneCell' = true) (hn : es.length ≤ 9223372036854775807) (hc : es.length ≤ cap) (hf : f = true → cap = es.length) (m : Nat) :
    ∃ G', Sim Γ w0 G' H (w.alloc (.cells C e)) ∧ Evol G H.length G' ∧ Rep G' m (.vec es f) (.slice (some ⟨w.heap.size, 0, none⟩) es.length cap) := by
  obtain ⟨h1, h2⟩ := h.allocKeep C e (es.length * sz) H.length
  refine ⟨_, h1, h2, .vec_of (sz := sz) (fun j => C[j]?) (fun j hj => ?_) hsz (fun j c hj => ?_) hn hc hf⟩
  · rw [Nat.zero_add, G.keep_at hj]
  · obtain ⟨u, hu, h3, h4⟩ := hr j c hj
    exact ⟨u, hu, h3.mono 0 (h2.less (Nat.zero_le _)) (Nat.le_refl _), h4⟩
def onOpt (z : Option Operand) (p : Prop) (f : Operand → Prop) : Prop :=
  match z with
  | none => p
  | some y => f y
def alen : PV → Option Nat
  | .str s => some s.length
  | .vec es _ => some es.length
  | .row _ _ k _ => some k
  | _ => none
theorem os_len {x : Operand} {t ty : TypeId} {d : TypeDesc} {n : Nat} (ho : o.op = .call { callee := .builtin .len, args := #[x], argTypes := #[t] }) (ht : P.underlying t = some d)
    (hd : d = .string ∧ (∃ s, ev Γ A x = .str s) ∨ (∃ e, d = .slice e) ∧ (∀ s, ev Γ A x ≠ .str s)) (hx : alen (ev Γ A x) = some n) (hk : K (.int .i64 n) H) : OStep P Γ o A H K :=
  ostep_pure (by simp [ho]) _ hk fun w0 G w N a hs ha => by
    have h1 := ha.ev hs.glob x
    refine ⟨.int .i64 n, ?_, .int _ _ _⟩
    have key : (Builtin.len_ #[t] o.type #[a.eval x]).run P w = .ok (.int .i64 n) w := by
      rcases hd with ⟨rfl, s, hs'⟩ | ⟨⟨e, rfl⟩, hne⟩
      · rw [hs'] at h1 hx
        rw [h1.str_inv]
        simp only [alen, Option.some.injEq] at hx
        have e : (⟨s.toArray⟩ : ByteArray).size = s.length := by simp [ByteArray.size]
        subst hx
        simp only [Builtin.len_, Sem.run_bind]
        rw [show (#[t] : Array TypeId)[0]? = some t from rfl, show (#[Value.string ⟨s.toArray⟩] : Array Value)[0]? = some (.string ⟨s.toArray⟩) from rfl]
        simp only [Sem.run_bind, run_under ht, Result.andThen_ok, goInt, e]
        rfl
      · generalize ev Γ A x = p at h1 hx hne
        generalize a.eval x = v at h1 ⊢
        cases h1 <;> simp only [alen, Option.some.injEq, reduceCtorEq] at hx
        case str s _ => exact absurd rfl (hne s)
        case vec0 => simp [Builtin.len_, run_under ht, goInt, ← hx]
        case vec => simp [Builtin.len_, run_under ht, goInt, hx]
        case row => simp [Builtin.len_, run_under ht, goInt, hx]
    simp [execOp, ho, resolve, invoke, builtin, key]
theorem os_sliceStr {t : TypeId} {x : Operand} {lo hi : Option Operand} {s : List UInt8} {l h : Nat} (ho : o.op = .slice t x lo hi none) (ht : P.underlying t = some .string) (hx : ev Γ A x = .str s)
    (hlo : onOpt lo (l = 0) fun z => ∃ k, ev Γ A z = .int k l) (hhi : onOpt hi (h = s.length) fun z => ∃ k, ev Γ A z = .int k h) (hlh : l ≤ h) (hh : h ≤ s.length)
    (hk : K (.str ((s.drop l).take (h - l))) H) : OStep P Γ o A H K :=
  ostep_pure (by simp [ho]) _ hk fun w0 G w N a hs ha => by
    have h1 := ha.ev hs.glob x
    rw [hx] at h1
    refine ⟨.string ((⟨s.toArray⟩ : ByteArray).extract l h), ?_, ?_⟩
    · have hb : (Instr.sliceBounds false s.length s.length (lo.map a.eval) (hi.map a.eval) none).run P w = .ok (l, h, s.length) w := by
        cases hi with
        | none =>
          simp only [onOpt] at hhi
          cases lo with
          | none => simp only [onOpt] at hlo; subst hlo; subst hhi; rfl
          | some z =>
            obtain ⟨k, hz⟩ := hlo
            have h2 := ha.ev hs.glob z
            rw [hz] at h2
            subst hhi
            have : (l : Int) ≤ s.length := by omega
            simp [Instr.sliceBounds, Instr.sliceBound, h2.int_inv, asIntOf, this, hlh]
        | some y =>
          obtain ⟨k', hy⟩ := hhi
          have h3 := ha.ev hs.glob y
          rw [hy] at h3
          cases lo with
          | none => simp only [onOpt] at hlo; simp [Instr.sliceBounds, Instr.sliceBound, hlo, h3.int_inv, asIntOf, hh]
          | some z =>
            obtain ⟨k, hz⟩ := hlo
            have h2 := ha.ev hs.glob z
            rw [hz] at h2
            simp [Instr.sliceBounds, Instr.sliceBound, h2.int_inv, h3.int_inv, asIntOf, hlh, hh]
      have hsize : (⟨s.toArray⟩ : ByteArray).size = s.length := by simp [ByteArray.size]
      have hr : (Instr.sliceAt t (a.eval x) (lo.map a.eval) (hi.map a.eval) none).run P w = .ok (.string ((⟨s.toArray⟩ : ByteArray).extract l h)) w := by
        rw [h1.str_inv]
        simp only [Instr.sliceAt, Sem.run_bind, run_under ht, Result.andThen_ok, Instr.slice, Option.isSome_none, Bool.false_eq_true, if_false, hsize, hb]
        rfl
      simp [execOp, ho, hr]
    · have : (⟨s.toArray⟩ : ByteArray).extract l h = ⟨((s.drop l).take (h - l)).toArray⟩ := by
        apply ByteArray.ext
        simp only [ByteArray.data_extract]
        apply Array.ext'
        simp [List.extract_eq_take_drop]
      rw [this]
      exact .str _ _ (by have := h1.str_len; simp; omega)
theorem run_bounds {w : World} {a : Act} {len cap l h m : Nat} {lo hi mx : Option Operand}
    (hlo : onOpt lo (l = 0) fun z => ∃ k, a.eval z = .int k l) (hhi : onOpt hi (h = len) fun z => ∃ k, a.eval z = .int k h)
    (hmx : onOpt mx (m = cap) fun z => hi.isSome = true ∧ ∃ k, a.eval z = .int k m) (hlh : l ≤ h) (hhm : h ≤ m) (hm : m ≤ cap) :
    (Instr.sliceBounds true len cap (lo.map a.eval) (hi.map a.eval) (mx.map a.eval)).run P w = .ok (l, h, m) w := by
  cases mx with
  | none =>
    simp only [onOpt] at hmx
    subst hmx
    cases hi with
    | none =>
      simp only [onOpt] at hhi
      subst hhi
      cases lo with
      | none => simp only [onOpt] at hlo; simp [Instr.sliceBounds, hlo]
      | some z =>
        obtain ⟨k, hz⟩ := hlo
        simp [Instr.sliceBounds, Instr.sliceBound, hz, asIntOf, hlh]
    | some y =>
      obtain ⟨k', hy⟩ := hhi
      cases lo with
      | none => simp only [onOpt] at hlo; simp [Instr.sliceBounds, Instr.sliceBound, hlo, hy, asIntOf, hhm]
      | some z =>
        obtain ⟨k, hz⟩ := hlo
        simp [Instr.sliceBounds, Instr.sliceBound, hz, hy, asIntOf, hlh, hhm]
  | some q =>
    obtain ⟨hih, k'', hq⟩ := hmx
    cases hi with
    | none => simp at hih
    | some y =>
      obtain ⟨k', hy⟩ := hhi
      cases lo with
      | none => simp only [onOpt] at hlo; simp [Instr.sliceBounds, Instr.sliceBound, hlo, hy, hq, asIntOf, hhm, hm]
      | some z =>
        obtain ⟨k, hz⟩ := hlo
        simp [Instr.sliceBounds, Instr.sliceBound, hz, hy, hq, asIntOf, hlh, hhm, hm]
theorem os_sliceVec {t : TypeId} {x : Operand} {lo hi mx : Option Operand} {es : List (List PV)} {f : Bool} {l h sz by' : Nat} (ho : o.op = .slice t x lo hi mx) (ht : elOf P t = some (sz, by')) (hx : ev Γ A x = .vec es f) (hsz : ∀ e ∈ es, e.length = sz)
    (hlo : onOpt lo (l = 0) fun z => ∃ k, ev Γ A z = .int k l) (hhi : onOpt hi (h = es.length) fun z => ∃ k, ev Γ A z = .int k h)
    (hmx : onOpt mx True fun z => hi.isSome = true ∧ ∃ k, ev Γ A z = .int k h) (hlh : l ≤ h) (hh : h ≤ es.length)
    (hk : K (.vec ((es.drop l).take (h - l)) mx.isSome) H) : OStep P Γ o A H K :=
  ostep_pure (by simp [ho]) _ hk fun w0 G w N a hs ha => by
    have h1 := ha.ev hs.glob x
    rw [hx] at h1
    obtain ⟨te, i, hu, hinf, rfl, _⟩ := elOf_spec ht
    have conv : ∀ (z : Operand) (k : IntKind) (n : Int), ev Γ A z = .int k n → a.eval z = .int k n := fun z k n hz => by
      have := ha.ev hs.glob z
      rw [hz] at this
      exact this.int_inv
    have hlo' : onOpt lo (l = 0) fun z => ∃ k, a.eval z = .int k l := by
      cases lo with
      | none => exact hlo
      | some z => obtain ⟨k, hz⟩ := hlo; exact ⟨k, conv z k _ hz⟩
    have hhi' : onOpt hi (h = es.length) fun z => ∃ k, a.eval z = .int k h := by
      cases hi with
      | none => exact hhi
      | some z => obtain ⟨k, hz⟩ := hhi; exact ⟨k, conv z k _ hz⟩
    have hb : ∀ cap, es.length ≤ cap → ∃ m, (Instr.sliceBounds true es.length cap (lo.map a.eval) (hi.map a.eval) (mx.map a.eval)).run P w = .ok (l, h, m) w ∧ h ≤ m ∧ m ≤ cap ∧ (mx.isSome = true → m = h) := fun cap hcap => by
      cases mx with
      | none => exact ⟨cap, run_bounds hlo' hhi' rfl hlh (by omega) (Nat.le_refl _), by omega, Nat.le_refl _, fun h => by simp at h⟩
      | some z =>
        obtain ⟨hih, k, hz⟩ := hmx
        exact ⟨h, run_bounds hlo' hhi' ⟨hih, k, conv z k _ hz⟩ hlh (Nat.le_refl _) (by omega), Nat.le_refl _, by omega, fun _ => rfl⟩
    generalize hax : a.eval x = v at h1
    have hrun : ∀ ad len cap l h m, v = .slice ad len cap → (Instr.sliceBounds true len cap (lo.map a.eval) (hi.map a.eval) (mx.map a.eval)).run P w = .ok (l, h, m) w →
        (execOp a.eval o).run P w = .ok (.value (.slice (if m = l then ad else ad.map (·.add (l * i.size))) (h - l) (m - l))) w := by
      intro ad len cap l h m e hb
      subst e
      simp [execOp, ho, Instr.sliceAt, Instr.slice, run_under hu, hax, hb, run_size hinf]
    cases h1 with
    | vec0 =>
      obtain ⟨m, h2, h3, h4, h5⟩ := hb 0 (by simp)
      have hm : m = 0 := by omega
      have hh0 : h = 0 := by omega
      have hl0 : l = 0 := by omega
      subst hm hh0 hl0
      exact ⟨_, hrun _ _ _ _ _ _ rfl h2, by simpa using Rep.vec0 _ _ _⟩
    | vec _ _ _ b q sz cap vs hn hc hf hss h1 h2 h3 =>
      obtain ⟨m, h2', h3', h4, h5⟩ := hb cap hc
      refine ⟨_, hrun _ _ _ _ _ _ rfl h2', ?_⟩
      have hlen : ((es.drop l).take (h - l)).length = h - l := by simp; omega
      by_cases hml : m = l
      · have hhl : h - l = 0 := by omega
        rw [if_pos hml, hhl, List.take_zero]
        have hm0 : m - l = 0 := by omega
        rw [hm0]
        exact .vec _ [] _ b q 0 0 (fun _ => undef) (Nat.zero_le _) (Nat.le_refl _) (fun _ => rfl) (fun e he => by cases he) (fun i j e c hi => by simp at hi) (fun i j e c hi => by simp at hi) (fun i j e c hi => by simp at hi)
      · rw [if_neg hml, Option.map_some, Fw.add_at]
        have hmem : ∀ e, e ∈ (es.drop l).take (h - l) → e ∈ es := fun e he => List.mem_of_mem_drop (List.mem_of_mem_take he)
        have hget : ∀ (i : Nat) e, ((es.drop l).take (h - l))[i]? = some e → es[l + i]? = some e := fun i e he => by
          rw [List.getElem?_take] at he
          split at he
          · rw [List.getElem?_drop] at he; exact he
          · cases he
        have hse : ∀ e, e ∈ (es.drop l).take (h - l) → sz = i.size := fun e he => by rw [← hss e (hmem e he)]; exact hsz e (hmem e he)
        have hadd : ∀ (k j : Nat) (e : List PV), ((es.drop l).take (h - l))[k]? = some e → l * i.size + (k * sz + j) = (l + k) * sz + j := fun k j e he => by
          have := hse e (List.mem_of_getElem? he)
          subst this
          rw [Nat.add_mul]; omega
        have := Rep.vec (G := G) H.length ((es.drop l).take (h - l)) mx.isSome b (q + l * i.size) sz (m - l) (fun j => vs (l * i.size + j)) (by rw [hlen]; omega) (by rw [hlen]; omega) (fun he => by rw [hlen, h5 he])
          (fun e he => hss e (hmem e he)) (fun k j e c hi hj => by rw [Nat.add_assoc, hadd k j e hi]; exact h1 _ j e c (hget k e hi) hj)
          (fun k j e c hi hj => by simp only [hadd k j e hi]; exact h2 _ j e c (hget k e hi) hj) (fun k j e c hi hj => by simp only [hadd k j e hi]; exact h3 _ j e c (hget k e hi) hj)
        rw [hlen] at this
        exact this
end
end Go.Proofs.YtddnigahjahkbaaGreatDoor.Fw
namespace Go.Proofs.YtddnigahjahkbaaGreatDoor.Fw
set_option linter.unusedVariables false
set_option linter.unusedSimpArgs false
set_option maxRecDepth 100000
open Go.RowKit
def chunk (sz : Nat) : Nat → List PV → List (List PV)
  | 0, _ => []
  | n + 1, cs => cs.take sz :: chunk sz n (cs.drop sz)
theorem chunk_spec {sz : Nat} : ∀ {n : Nat} {cs : List PV}, cs.length = n * sz → (chunk sz n cs).length = n ∧ (chunk sz n cs).flatten = cs ∧ ∀ e ∈ chunk sz n cs, e.length = sz
  | 0, cs, h => by
    have : cs = [] := by cases cs with
      | nil => rfl
      | cons c cs => simp at h
    subst this
    exact ⟨rfl, rfl, fun e he => by cases he⟩
  | n + 1, cs, h => by
    rw [Nat.succ_mul] at h
    obtain ⟨h1, h2, h3⟩ := chunk_spec (sz := sz) (n := n) (cs := cs.drop sz) (by rw [List.length_drop]; omega)
    refine ⟨by simp [chunk, h1], by simp [chunk, h2], fun e he => ?_⟩
    simp only [chunk, List.mem_cons] at he
    rcases he with rfl | he
    · rw [List.length_take]; omega
    · exact h3 e he
theorem chunk_flatten {sz : Nat} : ∀ {es : List (List PV)}, (∀ e ∈ es, e.length = sz) → chunk sz es.length es.flatten = es
  | [], _ => rfl
  | e :: es, h => by
    have he := h e (by simp)
    simp only [List.length_cons, chunk, List.flatten_cons]
    rw [List.take_left' he, List.drop_left' he, chunk_flatten (fun e he => h e (by simp [he]))]
section
variable {P : Program} {Γ : Nat → PV} {o : Oper} {A : List (Nat × PV)} {H : List Blk} {K : PV → List Blk → Prop}
theorem abuild_length {place : Nat → Option (Nat × Nat)} : ∀ {parts : List (Nat × PV)} {cs cs' : List PV}, abuild place cs parts = some cs' → cs'.length = cs.length
  | [], cs, cs', h => by simp only [abuild, Option.some.injEq] at h; rw [h]
  | (i, p) :: parts, cs, cs', h => by
    simp only [abuild] at h
    split at h
    · cases h
    · split at h
      · rename_i hc
        rw [abuild_length h, splice_length (by omega)]
      · cases h
theorem bslice_run {w0 : World} {G : Ghost} {w : World} {N : Nat} {a : Act} {t : TypeId} {len : Nat} {parts : Array (Nat × Operand)} {ti : TI} {e : TypeId} {cs : List PV} (hs : Sim Γ w0 G H w) (ha : ASim G H.length N A a)
    (ho : o.op = .buildSlice t len parts) (ht : P.underlying t = some (.slice e)) (he : tiOf P e = some ti) (hsz : 0 < ti.size) (hn : len * ti.size ≤ 16777216)
    (hb : abuild (fun i => some (i * ti.size, ti.size)) (List.replicate (len * ti.size) .any) (parts.toList.map fun x => (x.1, ev Γ A x.2)) = some cs) :
    ∃ C : Array Value, (execOp a.eval o).run P w = .ok (.value (.slice (some ⟨w.heap.size, 0, none⟩) len len)) (w.alloc (.cells C e)) ∧ Reps G H.length cs C.toList ∧ ∀ (j : Nat) u, C[j]? = some u → u.oneCell' = true := by
  obtain ⟨i, d, z, hi, hd, hz, hzs, hsz', _, h1, hagg, hzero⟩ := tiOf_spec he
  let C0 : Array Value := (Array.range (len * i.size)).map (z.cells[· % z.cells.size]!)
  have hC0 : Reps G H.length (List.replicate (len * ti.size) .any) C0.toList := by
    refine ⟨by simp [C0, hsz'], fun j p v hp _ => ?_⟩
    rw [List.getElem?_replicate] at hp
    split at hp
    · obtain rfl := Option.some.inj hp; exact .any _ _
    · cases hp
  have hC1 : ∀ (j : Nat) u, C0[j]? = some u → u.oneCell' = true := fun j u hu => by
    obtain ⟨hj, rfl⟩ := Array.getElem?_eq_some_iff.1 hu
    have hpos : 0 < z.cells.size := by omega
    have hlt : j % z.cells.size < z.cells.size := Nat.mod_lt _ hpos
    refine h1 (j % z.cells.size) _ ?_
    simp [C0, hlt]
  obtain ⟨C', hC', hr, h1'⟩ := fill_spec (place := fun i => some (i * ti.size, ti.size)) (place' := fun j => some (j * i.size, i.size)) (parts.toList.map fun x => (x.1, ev Γ A x.2)) (parts.toList.map fun x => (x.1, a.eval x.2)) _ cs C0 (fun j => by rw [hsz']) (by simp)
    (fun j i p i' v hj hj' => by
      rw [List.getElem?_map] at hj hj'
      cases hx : parts.toList[j]? with
      | none => rw [hx] at hj; cases hj
      | some x =>
        rw [hx] at hj hj'
        simp only [Option.map_some, Option.some.injEq, Prod.mk.injEq] at hj hj'
        obtain ⟨rfl, rfl⟩ := hj
        obtain ⟨rfl, rfl⟩ := hj'
        exact ⟨rfl, ha.ev hs.glob x.2⟩) hC0 hC1 hb
  refine ⟨C', ?_, hr, h1'⟩
  have hn' : ¬ (16777216 < len * i.size) := by rw [hsz']; omega
  have hr0 : Array.range 0 = #[] := rfl
  simp only [execOp, ho, Instr.buildSlice, Sem.run_bind, run_under ht, Result.andThen_ok, run_size hi, Array.toList_map]
  by_cases hl0 : len * i.size = 0
  · have hlen : len = 0 := by
      rcases Nat.mul_eq_zero.1 hl0 with h | h
      · exact h
      · omega
    have hC0' : C0 = #[] := by simp [C0, hl0]
    rw [hC0'] at hC'
    simp [hl0, hr0, hC', newRow, newObj, Sem.run]
  · simp [hn', hl0, run_zero hi hz]
    have hC'' := hC'
    simp only [C0] at hC''
    rw [hC'']
    simp [newRow, newObj, Sem.run]
theorem os_bsliceV {t : TypeId} {len : Nat} {parts : Array (Nat × Operand)} {ti : TI} {e : TypeId} {cs : List PV} (ho : o.op = .buildSlice t len parts) (ht : P.underlying t = some (.slice e)) (he : tiOf P e = some ti) (hsz : 0 < ti.size) (hn : len * ti.size ≤ 16777216)
    (hb : abuild (fun i => some (i * ti.size, ti.size)) (List.replicate (len * ti.size) .any) (parts.toList.map fun x => (x.1, ev Γ A x.2)) = some cs) (hp : PV.plainL cs = true) (hk : K (.vec (chunk ti.size len cs) true) H) : OStep P Γ o A H K :=
  ostep_value (by simp [ho]) fun w0 G w N a hs ha => by
    obtain ⟨C, hrun, hr, h1⟩ := bslice_run hs ha ho ht he hsz hn hb
    have hl : cs.length = len * ti.size := by rw [abuild_length hb]; simp
    obtain ⟨c1, c2, c3⟩ := chunk_spec hl
    have hcl : cs.length = C.size := hr.1.trans Array.length_toList
    obtain ⟨G', g1, g2, g3⟩ := hs.newVec C e (es := chunk ti.size len cs) (sz := ti.size) (cap := len) (f := true) c3 (fun j c hc => by
      rw [c2] at hc
      have hj := (List.getElem?_eq_some_iff.1 hc).1
      have hj' : j < C.size := by omega
      exact ⟨C[j], Array.getElem?_eq_getElem hj', (hr.2 j c _ hc (by simp [hj'])).cut 0 (PV.bdL_at hp hc), h1 j _ (Array.getElem?_eq_getElem hj')⟩) (by rw [c1]; have := Nat.le_mul_of_pos_right len hsz; omega) (by omega) (fun _ => c1.symm) H.length
    rw [c1] at g3
    exact ⟨_, _, G', _, H, hrun, g1, g3, g2, Nat.le_refl _, hk⟩
theorem Sim.newRow {w0 : World} {G : Ghost} {w : World} (h : Sim Γ w0 G H w) (C : Array Value) (e : TypeId) {cs : List PV} {sz k cap : Nat} (hsz : 0 < sz) (hl : cs.length = k * sz) (hC : C.size = cap * sz) (hn : k ≤ 9223372036854775807) (hc : k ≤ cap) (hbd : PV.bdL H.length cs = true)
    (hr : ∀ (j : Nat) c u, cs[j]? = some c → C[j]? = some u → Rep G H.length c u ∧ u.oneCell' = true) :
    ∃ G', Sim Γ w0 G' (H ++ [Blk.row sz cs]) (w.alloc (.cells C e)) ∧ Evol G H.length G' ∧ Rep G' (H ++ [Blk.row sz cs]).length (.row H.length 0 k sz) (.slice (some ⟨w.heap.size, 0, none⟩) k cap) := by
  let i : Info := { blk := w.heap.size, len := cs.length, size := C.size, sub := 0, isRow := true }
  have hev := Evol.setInfo_new G H.length i
  by_cases hcap : cap = 0
  · have hk0 : k = 0 := by omega
    subst hcap hk0
    have hcs : cs = [] := by cases cs with
      | nil => rfl
      | cons c cs => simp at hl
    subst hcs
    have hp := h.push i (.row sz []) (w.alloc (.cells C e)) (h.below.alloc h.size _) (by simp) (fun k hk => Below.heap_alloc _ _ _ hk)
      ⟨rfl, rfl, hsz, Nat.zero_le _, rfl, .inl ⟨by simp [i, hC], rfl⟩⟩ (fun hl => by simp [Blk.live, i, hC] at hl)
    refine ⟨_, hp.1, hp.2, .row _ _ 0 0 sz _ 0 (Nat.zero_le _) (by simp) (by rw [G.setInfo_same]) (by rw [G.setInfo_same]; simp [i]) (fun _ => ⟨Nat.le_refl _, .inr ⟨rfl, rfl⟩⟩)⟩
  · have hpos : 0 < C.size := by rw [hC]; exact Nat.mul_pos (by omega) hsz
    have hp := h.push i (.row sz cs) (w.alloc (.cells C e)) (h.below.alloc h.size _) (by simp) (fun k hk => Below.heap_alloc _ _ _ hk)
      ⟨rfl, rfl, hsz, Nat.zero_le _, PV.bdL_mono (by omega) _ hbd, .inr ⟨hpos, C, e, heap_new w _, rfl, by simp only [i]; rw [hC, hl, Nat.sub_zero]; exact Nat.mul_le_mul_right _ hc, fun j c u hc hu => by
        simp only [i, Nat.zero_add] at hc
        exact ⟨(hr j c u hc hu).1.mono _ hev (by omega), (hr j c u hc hu).2⟩⟩⟩ (fun _ => ⟨Nat.le_refl _, by simp [i]⟩)
    refine ⟨_, hp.1, hp.2, .row _ _ 0 k sz _ cap hn (by simp) (by rw [G.setInfo_same]) (by rw [G.setInfo_same]; simp only [i]; omega) (fun _ => ⟨hc, .inl ⟨by rw [G.setInfo_same]; exact Nat.le_refl _, by rw [G.setInfo_same]; rfl, by rw [G.setInfo_same]; simp [i, hC]⟩⟩)⟩
theorem Sim.adopt {w0 : World} {G : Ghost} {w : World} (h : Sim Γ w0 G H w) {sz : Nat} (hsz : 0 < sz) {n : Nat} {v : Value} (hv : Rep G n (.vec [] true) v) :
    ∃ G', Sim Γ w0 G' (H ++ [Blk.row sz []]) w ∧ Evol G H.length G' ∧ Rep G' (H ++ [Blk.row sz []]).length (.row H.length 0 0 sz) v := by
  let i : Info := { blk := 0, len := 0, size := 0, sub := 0, isRow := true }
  have hp := h.push i (.row sz []) w h.below (Nat.le_refl _) (fun k _ => rfl) ⟨rfl, rfl, hsz, Nat.zero_le _, rfl, .inl ⟨rfl, rfl⟩⟩ (fun hl => by simp [Blk.live, i] at hl)
  refine ⟨_, hp.1, hp.2, ?_⟩
  have key : ∃ ad : Option Addr, v = .slice ad 0 0 := by
    cases hv with
    | vec0 => exact ⟨_, rfl⟩
    | vec _ _ _ b q sz' cap vs hn hc hf => exact ⟨some ⟨b, q, none⟩, by rw [hf rfl]; rfl⟩
  obtain ⟨ad, rfl⟩ := key
  exact .row _ _ 0 0 sz _ 0 (Nat.zero_le _) (by simp) (by rw [G.setInfo_same]) (by rw [G.setInfo_same]; simp [i]) (fun _ => ⟨Nat.le_refl _, .inr ⟨rfl, rfl⟩⟩)
theorem Sim.freeze {w0 : World} {G : Ghost} {w : World} {b sz : Nat} {cs : List PV} (h : Sim Γ w0 G H w) (hb : H[b]? = some (.row sz cs)) (hp : PV.plainL cs = true) :
    ∃ G', Sim Γ w0 G' (H.set b .dead) w ∧ Evol G H.length G' ∧ ∀ n m q k v, Rep G n (.row b q k sz) v → cs.length = q + k * sz → Rep G' m (.vec (chunk sz k (cs.drop q)) false) v := by
  obtain ⟨hr, hlen, hsz, hsub, hbd, hrest⟩ := h.blk b _ hb
  have hbl := (List.getElem?_eq_some_iff.1 hb).1
  let i : Info := { (G.info b) with len := cs.length + 1 }
  have empty : ∀ (G' : Ghost) (m : Nat) (ad : Option Addr) (cap q : Nat), (cap = 0 ∨ ∃ x : Addr, ad = some x ∧ x.spot = none) → Rep G' m (.vec (chunk sz 0 (cs.drop q)) false) (.slice ad 0 cap) := by
    intro G' m ad cap q hc
    rcases hc with rfl | ⟨⟨g, o', s⟩, rfl, hs⟩
    · exact .vec0 _ _ _
    · simp only at hs
      subst hs
      exact .vec _ [] _ g o' 0 cap (fun _ => undef) (Nat.zero_le _) (Nat.zero_le _) (fun hf => by cases hf) (fun e he => by cases he) (fun i j e c hi => by simp at hi) (fun i j e c hi => by simp at hi) (fun i j e c hi => by simp at hi)
  rcases hrest with ⟨hz, hcs⟩ | ⟨hpos, C, e, hh, hCs, hle, h5⟩
  · have he : Evol G H.length (G.setInfo b i) := ⟨fun _ _ h => h, fun k _ => by
      by_cases hk : k = b
      · subst hk; exact .inr ⟨hr, by rw [G.setInfo_same]; exact hr, by rw [G.setInfo_same, hlen]; exact Nat.lt_succ_self _⟩
      · exact .inl (G.setInfo_other i hk)⟩
    refine ⟨G.setInfo b i, h.set hb he (fun k _ hk => G.setInfo_other i hk) h.below (Nat.le_refl _) (fun _ _ _ _ _ => rfl) h.mem (fun k D hD _ hl => (h.own k D hD hl).2.2) trivial (fun hl => by simp [Blk.live] at hl), he, fun n m q k v hv hl => ?_⟩
    obtain ⟨ad, cap, rfl, _, _, _, had⟩ := hv.row_inv
    obtain ⟨_, hcase⟩ := had (by omega)
    have hk0 : k = 0 := by
      rcases hcase with ⟨hs, _, hc⟩ | ⟨hk, _⟩
      · rcases Nat.eq_zero_or_pos k with h0 | h0
        · exact h0
        · have := Nat.mul_pos h0 hsz; omega
      · exact hk
    subst hk0
    refine empty _ _ _ _ _ ?_
    rcases hcase with ⟨_, h0, _⟩ | ⟨_, h0⟩
    · exact .inr ⟨_, h0, rfl⟩
    · exact .inl h0
  · have hown := h.own b _ hb (by simpa [Blk.live] using hpos)
    let G1 := G.keep (G.info b).blk (cs.length - (G.info b).sub) C
    let G2 := G1.setInfo b i
    have he : Evol G H.length G2 := ⟨(Evol.keep (n := 0) hown.2.2).mem, fun k _ => by
      by_cases hk : k = b
      · subst hk; exact .inr ⟨hr, by show ((G1.setInfo k i).info k).isRow = true; rw [Ghost.setInfo_same]; exact hr, by show _ < ((G1.setInfo k i).info k).len; rw [Ghost.setInfo_same, hlen]; exact Nat.lt_succ_self _⟩
      · exact .inl (Ghost.setInfo_other G1 i hk)⟩
    have hM : ∀ j, j < cs.length - (G.info b).sub → G2.M ⟨(G.info b).blk, j, none⟩ = C[j]? := fun j hj => G.keep_at hj
    refine ⟨G2, h.set hb he (fun k _ hk => Ghost.setInfo_other G1 i hk) h.below (Nat.le_refl _) (fun _ _ _ _ _ => rfl) (fun a v ha => ?_) (fun k D hD hk hl o' s => ?_) trivial (fun hl => by simp [Blk.live] at hl), he, fun n m q k v hv hl => ?_⟩
    · obtain ⟨g, o', s⟩ := a
      by_cases hg : g = (G.info b).blk
      · subst hg
        have ha' : (G.keep (G.info b).blk (cs.length - (G.info b).sub) C).M ⟨(G.info b).blk, o', s⟩ = some v := ha
        simp only [Ghost.keep] at ha'
        split at ha'
        · rename_i hc
          obtain ⟨_, hs, _⟩ := hc
          subst hs
          simp [World.cell?, hh, ha']
        · rw [hown.2.2] at ha'; cases ha'
      · have ha' : (G.keep (G.info b).blk (cs.length - (G.info b).sub) C).M ⟨g, o', s⟩ = some v := ha
        rw [G.keep_other hg] at ha'
        exact h.mem _ v ha'
    · have hne : (G.info k).blk ≠ (G.info b).blk := fun e => hk (h.inj k b D _ hD hb hl (by simpa [Blk.live] using hpos) e)
      show (G.keep (G.info b).blk (cs.length - (G.info b).sub) C).M _ = none
      rw [G.keep_other hne]
      exact (h.own k D hD hl).2.2 o' s
    · obtain ⟨ad, cap, rfl, _, _, _, had⟩ := hv.row_inv
      obtain ⟨hkc, hcase⟩ := had (by omega)
      rcases hcase with ⟨hs, rfl, hcap⟩ | ⟨hk0, hc0⟩
      · have hdl : (cs.drop q).length = k * sz := by simp; omega
        obtain ⟨c1, c2, c3⟩ := chunk_spec hdl
        have := Rep.vec_of (G := G2) (n := m) (g := (G.info b).blk) (q := q - (G.info b).sub) (sz := sz) (cap := cap) (es := chunk sz k (cs.drop q)) (f := false) (fun j => C[q - (G.info b).sub + j]?)
          (fun j hj => by rw [c1] at hj; exact hM _ (by omega)) c3 (fun j c hc => by
            rw [c2, List.getElem?_drop] at hc
            have hj := (List.getElem?_eq_some_iff.1 hc).1
            have hj' : q - (G.info b).sub + j < C.size := by omega
            have h6 := h5 (q - (G.info b).sub + j) c _ (by rw [show (G.info b).sub + (q - (G.info b).sub + j) = q + j by omega]; exact hc) (Array.getElem?_eq_getElem hj')
            exact ⟨_, Array.getElem?_eq_getElem hj', (h6.1.cut 0 (PV.bdL_at hp hc)).mono 0 (he.less (Nat.zero_le _)) (Nat.le_refl _), h6.2⟩) (by rw [c1]; exact hv.row_len) (by rw [c1]; exact hkc) (fun hf => by cases hf)
        rw [c1] at this
        exact this
      · subst hk0 hc0
        exact empty _ _ _ _ _ (.inl rfl)
def srcOf (H : List Blk) (sz : Nat) : PV → Option (List PV)
  | .vec es _ => some es.flatten
  | .str s => if sz = 1 then some (s.map fun c => .int .u8 c.toNat) else none
  | .row b q k sz' => match H[b]? with
    | some (.row sz'' cs) => if sz' = sz ∧ sz'' = sz ∧ cs.length = q + k * sz ∧ PV.plainL (cs.drop q) = true then some (cs.drop q) else none
    | _ => none
  | _ => none
theorem src_spec {w0 : World} {G : Ghost} {w : World} {tx : TypeId} {d : TypeDesc} {sz n : Nat} {p : PV} {v : Value} {xs : List PV} (hs : Sim Γ w0 G H w) (hr : Rep G H.length p v) (hx : srcOf H sz p = some xs)
    (hd : P.underlying tx = some d) (hd' : (∃ e, d = .slice e) ∨ d = .string) (hv : ∀ es f, p = .vec es f → ∀ e ∈ es, e.length = sz) (hn : alen p = some n) : ∃ news, Src P sz tx v n news w ∧ Reps G 0 xs news := by
  have hkind : (∃ e', P.underlying tx = some (.slice e')) ∨ P.underlying tx = some .string := by
    rcases hd' with ⟨e, rfl⟩ | rfl
    · exact .inl ⟨e, hd⟩
    · exact .inr hd
  unfold srcOf at hx
  split at hx
  · rename_i es f
    obtain rfl := Option.some.inj hx
    simp only [alen, Option.some.injEq] at hn
    subst hn
    have hse := hv es f rfl
    obtain ⟨ad, cap, rfl, h1, h2, h4, C, h5, h6, h7⟩ := vec_cells (P := P) hs hr hse
    obtain ⟨_, _, he2, _, _, _, C2, h52, h62, h72⟩ := vec_cells (P := P) hs.drew hr hse
    have e : C2 = C := by
      have hl1 : C.size = es.length * sz := by rw [← flatten_len hse]; exact (h6.1.trans Array.length_toList).symm
      have hl2 : C2.size = es.length * sz := by rw [← flatten_len hse]; exact (h62.1.trans Array.length_toList).symm
      have : (Builtin.firstCells sz es.length (.slice ad es.length cap)).run P w.drew = .ok C w.drew := by
        cases ad with
        | none =>
          rw [run_firstCells_none] at h5 ⊢
          injection h5 with h5 _
          rw [h5]
        | some ad =>
          have hcell : ∀ (j : Nat) v, C.toList[j]? = some v → w.cell? (ad.add j) = some v := by
            intro j v hj
            have hr' := hr
            cases hr' with
            | vec0 =>
              have := h6.1
              simp at this
              have hj' := (List.getElem?_eq_some_iff.1 hj).1
              simp at hj'; omega
            | vec _ _ _ b q sz' cap' vs hn hc hf hss h1' h2' h3' =>
              have hjl : j < C.size := by simpa using (List.getElem?_eq_some_iff.1 hj).1
              have hfl : j < es.flatten.length := by rw [flatten_len hse]; omega
              obtain ⟨i, k, e, rfl, hi, hk⟩ := flatten_at hse (List.getElem?_eq_getElem hfl)
              have hse' : sz' = sz := by rw [← hse e (List.mem_of_getElem? hi)]; exact (hss e (List.mem_of_getElem? hi)).symm
              subst hse'
              have hrun := run_firstCells_some (P := P) w sz' es.length ⟨b, q, none⟩ es.length cap ((List.range (es.length * sz')).map vs) (by simp) (fun j v hj => by
                rw [Fw.add_at]
                have hlt : j < es.length * sz' := by
                  have := (List.getElem?_eq_some_iff.1 hj).1
                  simpa using this
                have hv : v = vs j := by
                  rw [List.getElem?_map, List.getElem?_range hlt] at hj
                  exact (Option.some.inj hj).symm
                have hfl : j < es.flatten.length := by rw [flatten_len hse]; exact hlt
                obtain ⟨i, k, e, rfl, hi, hk⟩ := flatten_at hse (List.getElem?_eq_getElem hfl)
                subst hv
                exact hs.mem _ _ (h1' i k e _ hi hk))
              rw [hrun] at h5
              injection h5 with h5 _
              rw [← h5] at hj
              simp only [List.toList_toArray] at hj
              have hlt : i * sz' + k < es.length * sz' := by omega
              rw [List.getElem?_map, List.getElem?_range hlt] at hj
              obtain rfl := Option.some.inj hj
              rw [Fw.add_at]
              exact hs.mem _ _ (h1' i k e _ hi hk)
          have := run_firstCells_some (P := P) w.drew sz es.length ad es.length cap C.toList (by rw [Array.length_toList]; exact hl1) (fun j v hj => by simpa using hcell j v hj)
          simpa using this
      rw [this] at h52
      injection h52 with h52 _
      exact h52.symm
    subst e
    refine ⟨C2.toList, ⟨hkind, fun _ => rfl, by simpa using h5, by simpa using h52, by rw [Array.length_toList, ← flatten_len hse]; exact (h6.1.trans Array.length_toList).symm, fun u hu => ?_⟩, h6⟩
    obtain ⟨j, hj, rfl⟩ := List.mem_iff_getElem.1 hu
    exact h7 j _ (by simp at hj ⊢)
  · rename_i s
    split at hx
    · rename_i hsz
      subst hsz
      obtain rfl := Option.some.inj hx
      simp only [alen, Option.some.injEq] at hn
      subst hn
      rw [hr.str_inv]
      have hsize : (⟨s.toArray⟩ : ByteArray).size = s.length := by simp [ByteArray.size]
      have hb := firstCells_string (P := P) (⟨s.toArray⟩ : ByteArray)
      refine ⟨byteCells ⟨s.toArray⟩, ⟨hkind, fun w' => ?_, ?_, ?_, ?_, fun u hu => ?_⟩, ?_⟩
      · show Result.ok ((⟨s.toArray⟩ : ByteArray).size) w' = _
        rw [hsize]
      · rw [← hsize]; exact hb w
      · rw [← hsize]; exact hb w.drew
      · rw [byteCells_length, hsize, Nat.mul_one]
      · obtain ⟨_, _, rfl⟩ := List.mem_map.1 hu
        rfl
      · refine ⟨by simp [byteCells], fun j p v hp hv => ?_⟩
        simp only [byteCells, List.toList_toArray] at hv
        rw [List.getElem?_map] at hp hv
        cases hc : s[j]? with
        | none => rw [hc] at hp; cases hp
        | some c =>
          rw [hc] at hp hv
          obtain rfl := Option.some.inj hp
          obtain rfl := Option.some.inj hv
          exact .int _ _ _
    · cases hx
  · rename_i b q k sz'
    split at hx
    · rename_i sz'' cs hbk
      split at hx
      · rename_i hcond
        obtain ⟨rfl, rfl, hcl, hpl⟩ := hcond
        obtain rfl := Option.some.inj hx
        simp only [alen, Option.some.injEq] at hn
        subst hn
        obtain ⟨_, hlen, hszp, hsub, _, hrest⟩ := hs.blk b _ hbk
        obtain ⟨ad, cap, rfl, _, _, _, had⟩ := hr.row_inv
        obtain ⟨hkc, hcase⟩ := had (by omega)
        have hdl : (cs.drop q).length = k * sz'' := by simp; omega
        rcases Nat.eq_zero_or_pos k with hk0 | hk0
        · subst hk0
          have hnil : cs.drop q = [] := List.eq_nil_of_length_eq_zero (by omega)
          rw [hnil]
          cases ad with
          | none => exact ⟨[], ⟨hkind, fun _ => rfl, run_firstCells_none w sz'' 0 0 cap, run_firstCells_none w.drew sz'' 0 0 cap, by simp, fun _ h => by cases h⟩, Reps.nil _ _⟩
          | some a => exact ⟨[], ⟨hkind, fun _ => rfl, run_firstCells_some w sz'' 0 a 0 cap [] (by simp) (fun j u h => by simp at h), run_firstCells_some w.drew sz'' 0 a 0 cap [] (by simp) (fun j u h => by simp at h), by simp, fun _ h => by cases h⟩, Reps.nil _ _⟩
        · have hpos := Nat.mul_pos hk0 hszp
          rcases hcase with ⟨hsq, rfl, hcap⟩ | ⟨h0, _⟩
          · have hmul : k * sz'' ≤ cap * sz'' := Nat.mul_le_mul_right _ hkc
            rcases hrest with ⟨hz0, _⟩ | ⟨_, C, te, hh, hCs, hCle, h5⟩
            · omega
            · have hat : ∀ j u, ((C.toList.drop (q - (G.info b).sub)).take (k * sz''))[j]? = some u → j < k * sz'' ∧ C[q - (G.info b).sub + j]? = some u := fun j u h => by
                rw [List.getElem?_take] at h
                split at h
                · rename_i hj
                  rw [List.getElem?_drop, Array.getElem?_toList] at h
                  exact ⟨hj, h⟩
                · cases h
              have hrel : ∀ j c u, (cs.drop q)[j]? = some c → C[q - (G.info b).sub + j]? = some u → Rep G H.length c u ∧ u.oneCell' = true := fun j c u hc hu =>
                h5 (q - (G.info b).sub + j) c u (by rw [List.getElem?_drop] at hc; rw [show (G.info b).sub + (q - (G.info b).sub + j) = q + j by omega]; exact hc) hu
              have hll : ((C.toList.drop (q - (G.info b).sub)).take (k * sz'')).length = k * sz'' := by
                rw [List.length_take, List.length_drop, Array.length_toList]; omega
              have hcells : ∀ j u, ((C.toList.drop (q - (G.info b).sub)).take (k * sz''))[j]? = some u → w.cell? (Addr.add ⟨(G.info b).blk, q - (G.info b).sub, none⟩ j) = some u := fun j u h => by
                rw [Fw.add_at]
                obtain ⟨_, h2⟩ := hat j u h
                simp [World.cell?, hh, h2]
              refine ⟨(C.toList.drop (q - (G.info b).sub)).take (k * sz''), ⟨hkind, fun _ => rfl, run_firstCells_some w sz'' k _ k cap _ hll hcells, run_firstCells_some w.drew sz'' k _ k cap _ hll (by simpa using hcells), hll, fun u hu => ?_⟩, by rw [hll]; exact hdl, fun j c u hc hu => ?_⟩
              · obtain ⟨j, hj, rfl⟩ := List.mem_iff_getElem.1 hu
                obtain ⟨hj2, h2⟩ := hat j _ (List.getElem?_eq_getElem hj)
                exact (hrel j _ _ (List.getElem?_eq_getElem (by omega)) h2).2
              · obtain ⟨_, h2⟩ := hat j u hu
                exact ((hrel j c u hc h2).1.cut 0 (PV.bdL_at hpl hc))
          · omega
      · cases hx
    · cases hx
  · cases hx
theorem run_append_room' (w w' : World) (t tx ty e : TypeId) (i : TypeInfo) (ht : P.underlying t = some (.slice e)) (hi : P.info? e = some i) (b off sLen sCap : Nat) (x : Value) (n : Nat) (news : List Value) (hs : Src P i.size tx x n news w)
    (hroom : sLen + n ≤ sCap) (hst : (storeCells ⟨b, off + sLen * i.size, none⟩ news).run P w = .ok () w') :
    (Builtin.append_ #[t, tx] ty #[.slice (some ⟨b, off, none⟩) sLen sCap, x]).run P w = .ok (.slice (some ⟨b, off, none⟩) (sLen + n) sCap) w' := by
  rcases hs.kind with ⟨e', hk⟩ | hk <;> simp [Builtin.append_, run_underlying ht, run_underlying hk, sizeOf, typeInfo, hi, hs.len, hroom, hs.cells, Fw.add_at, hst]
end
end Go.Proofs.YtddnigahjahkbaaGreatDoor.Fw
namespace Go.Proofs.YtddnigahjahkbaaGreatDoor.Fw
set_option linter.unusedVariables false
set_option linter.unusedSimpArgs false
set_option maxRecDepth 100000
open Go.RowKit
theorem le_grownCap (w : World) (n c : Nat) (e : TypeId) : n ≤ grownCap w n c e := Nat.le_add_right _ _
section
variable {P : Program} {Γ : Nat → PV} {o : Oper} {A : List (Nat × PV)} {H : List Blk} {K : PV → List Blk → Prop}
theorem Rep.weaken {G : Ghost} {n : Nat} {es : List (List PV)} {f : Bool} {v : Value} (h : Rep G n (.vec es f) v) : Rep G n (.vec es false) v := by
  cases h with
  | vec0 => exact .vec0 _ _ _
  | vec _ _ _ b q sz cap vs hn hc hf hss h1 h2 h3 => exact .vec _ _ _ b q sz cap vs hn hc (fun h => by cases h) hss h1 h2 h3
theorem os_appendV {x y : Operand} {t tx e : TypeId} {d : TypeDesc} {ti : TI} {es : List (List PV)} {xs : List PV} {n : Nat} (ho : o.op = .call { callee := .builtin .append, args := #[x, y], argTypes := #[t, tx] })
    (ht : P.underlying t = some (.slice e)) (he : tiOf P e = some ti) (htx : P.underlying tx = some d) (hd : (∃ e, d = .slice e) ∨ d = .string) (hx : ev Γ A x = .vec es true) (hes : ∀ e ∈ es, e.length = ti.size)
    (hy : srcOf H ti.size (ev Γ A y) = some xs) (hyv : ∀ es f, ev Γ A y = .vec es f → ∀ e ∈ es, e.length = ti.size) (hn : alen (ev Γ A y) = some n) (hb : (es.length + n) * ti.bytes ≤ 140737488355328) (hb' : es.length + n ≤ 9223372036854775807)
    (hk : K (.vec (es ++ chunk ti.size n xs) false) H) : OStep P Γ o A H K :=
  ostep_value (by simp [ho]) fun w0 G w N a hs ha => by
    obtain ⟨i, d', z, hi, hd', hz, hzs, hsz, hby, h1, hagg, hzero⟩ := tiOf_spec he
    have hxr := ha.ev hs.glob x
    rw [hx] at hxr
    obtain ⟨news, hsrc, hnr⟩ := src_spec (P := P) (tx := tx) hs (ha.ev hs.glob y) hy htx hd hyv hn
    have hrun : ∀ v w', (Builtin.append_ #[t, tx] o.type #[a.eval x, a.eval y]).run P w = .ok v w' → (execOp a.eval o).run P w = .ok (.value v) w' := fun v w' h => by
      simp [execOp, ho, resolve, invoke, builtin, h]
    obtain ⟨ad, cap, hax, h1', h2, h4, C, h5, h6, h7⟩ := vec_cells (P := P) hs.drew hxr hes
    rw [hax] at hrun hxr h5
    have hnl : xs.length = n * ti.size := by rw [hnr.1, hsrc.newsLen]
    rw [hsz.symm] at hsrc
    by_cases hn0 : n = 0
    · subst hn0
      have hnews : news = [] := by
        have := hsrc.newsLen
        simpa using this
      subst hnews
      refine ⟨_, w, G, _, H, hrun _ _ (run_append_nothing w t tx o.type e i ht hi ad es.length cap h1' _ hsrc), hs, ?_, Evol.refl _ _, Nat.le_refl _, hk⟩
      simp only [chunk, List.append_nil]
      exact hxr.weaken
    · obtain ⟨c1, c2, c3⟩ := chunk_spec hnl
      have hcap := h2 rfl
      have hgrow := run_append_grow_src (P := P) w t tx o.type e i z ht hi hz ad es.length cap C.toList (by rw [hsz]; simpa using h5) (a.eval y) n news hsrc (by omega) (by omega)
        (growslice_fits (by omega) (by rw [hby]; exact hb))
      let C' := (C.toList ++ news).toArray ++ Builtin.zeroCells z.cells (grownCap w (es.length + n) cap e - (es.length + n))
      have hgc : es.length + n ≤ grownCap w (es.length + n) cap e := le_grownCap _ _ _ _
      have hfl : (es ++ chunk ti.size n xs).flatten = es.flatten ++ xs := by rw [List.flatten_append, c2]
      have hlen : (es ++ chunk ti.size n xs).length = es.length + n := by rw [List.length_append, c1]
      obtain ⟨G', g1, g2, g3⟩ := hs.drew.newVec C' e (es := es ++ chunk ti.size n xs) (sz := ti.size) (cap := grownCap w (es.length + n) cap e) (f := false) (fun e he => by
          rcases List.mem_append.1 he with h | h
          · exact hes e h
          · exact c3 e h) (fun j c hc => by
        rw [hfl] at hc
        have hreps : Reps G 0 (es.flatten ++ xs) (C.toList ++ news) := h6.append hnr
        have hj := (List.getElem?_eq_some_iff.1 hc).1
        have hj' : j < (C.toList ++ news).length := by rw [← hreps.1]; exact hj
        have hget : C'[j]? = (C.toList ++ news)[j]? := by
          show ((C.toList ++ news).toArray ++ _)[j]? = _
          rw [Array.getElem?_append_left (by simpa using hj')]
          simp
        refine ⟨(C.toList ++ news)[j], by rw [hget, List.getElem?_eq_getElem hj'], hreps.2 j c _ hc (List.getElem?_eq_getElem hj'), ?_⟩
        have hmem := List.getElem_mem hj'
        rcases List.mem_append.1 hmem with h | h
        · obtain ⟨k, hk', he'⟩ := List.mem_iff_getElem.1 h
          rw [← he']
          exact h7 k _ (by simp at hk' ⊢)
        · exact hsrc.one _ h) (by rw [hlen]; exact hb') (by rw [hlen]; exact hgc) (fun h => by cases h) H.length
      rw [hlen] at g3
      exact ⟨_, _, G', _, H, hrun _ _ hgrow, g1, g3, g2, Nat.le_refl _, hk⟩
theorem os_appendVV {x y : Operand} {t tx e e' : TypeId} {ti : TI} {es fs : List (List PV)} {f : Bool} (ho : o.op = .call { callee := .builtin .append, args := #[x, y], argTypes := #[t, tx] })
    (ht : P.underlying t = some (.slice e)) (he : tiOf P e = some ti) (htx : P.underlying tx = some (.slice e')) (hx : ev Γ A x = .vec es true) (hes : ∀ e ∈ es, e.length = ti.size)
    (hy : ev Γ A y = .vec fs f) (hfs : ∀ e ∈ fs, e.length = ti.size) (hb : (es.length + fs.length) * ti.bytes ≤ 140737488355328) (hb' : es.length + fs.length ≤ 9223372036854775807)
    (hk : K (.vec (es ++ fs) false) H) : OStep P Γ o A H K :=
  os_appendV ho ht he htx (.inl ⟨e', rfl⟩) hx hes (by rw [hy]; rfl) (fun es f h => by rw [hy] at h; cases h; exact hfs) (by rw [hy]; rfl) hb hb' (by rw [chunk_flatten hfs]; exact hk)
theorem append_row_sem {x y : Operand} {t tx e : TypeId} {d : TypeDesc} {ti : TI} {b q k : Nat} {cs xs : List PV} {n : Nat} (ho : o.op = .call { callee := .builtin .append, args := #[x, y], argTypes := #[t, tx] })
    (ht : P.underlying t = some (.slice e)) (he : tiOf P e = some ti) (htx : P.underlying tx = some d) (hd : (∃ e, d = .slice e) ∨ d = .string) (hbk : H[b]? = some (.row ti.size cs)) (hl : cs.length = q + k * ti.size)
    (hy : srcOf H ti.size (ev Γ A y) = some xs) (hyv : ∀ es f, ev Γ A y = .vec es f → ∀ e ∈ es, e.length = ti.size) (hn : alen (ev Γ A y) = some n) (hbd : (k + n) * ti.bytes ≤ 140737488355328) (hbd' : k + n ≤ 9223372036854775807)
    (hk : K (.row b q (k + n) ti.size) (H.set b (.row ti.size (cs ++ xs)))) {w0 w : World} {G : Ghost} {N : Nat} {a : Act} (hs : Sim Γ w0 G H w) (ha : ASim G H.length N A a) (hxr : Rep G H.length (.row b q k ti.size) (a.eval x)) :
    ∃ v w' G' p H', (execOp a.eval o).run P w = .ok (.value v) w' ∧ Sim Γ w0 G' H' w' ∧ Rep G' H'.length p v ∧ Evol G H.length G' ∧ H.length ≤ H'.length ∧ K p H' := by
    obtain ⟨i, d', z, hi, hd', hz, hzs, hsz, hby, h1, hagg, hzero⟩ := tiOf_spec he
    obtain ⟨news, hsrc, hnr⟩ := src_spec (P := P) (tx := tx) hs (ha.ev hs.glob y) hy htx hd hyv hn
    have hrun : ∀ v w', (Builtin.append_ #[t, tx] o.type #[a.eval x, a.eval y]).run P w = .ok v w' → (execOp a.eval o).run P w = .ok (.value v) w' := fun v w' h => by
      simp [execOp, ho, resolve, invoke, builtin, h]
    obtain ⟨hr, hlen, hszp, hsub, hcb, hrest⟩ := hs.blk b _ hbk
    have hblt := (List.getElem?_eq_some_iff.1 hbk).1
    obtain ⟨ad, cap, hax, hlt, _, hle, had⟩ := hxr.row_inv
    obtain ⟨hkc, hcase⟩ := had (by omega)
    rw [hax] at hrun
    have hnl : xs.length = n * ti.size := by rw [hnr.1, hsrc.newsLen]
    have hnnl : news.length = n * ti.size := hsrc.newsLen
    have hxb : PV.bdL H.length (cs ++ xs) = true := by rw [PV.bdL_append, hcb, PV.bdL_mono (Nat.zero_le _) _ hnr.bound]; rfl
    rw [hsz.symm] at hsrc
    by_cases hn0 : n = 0
    · subst hn0
      have hnews : news = [] := by
        have := hsrc.newsLen
        simpa using this
      subst hnews
      have hxs : xs = [] := by
        have := hnr.1
        simpa using this
      subst hxs
      have hset : H.set b (.row ti.size (cs ++ [])) = H := by
        rw [List.append_nil]
        have := (List.getElem?_eq_some_iff.1 hbk).2
        rw [← this]
        exact List.set_getElem_self hblt
      rw [hset] at hk
      exact ⟨_, w, G, _, H, hrun _ _ (run_append_nothing w t tx o.type e i ht hi ad k cap hkc _ hsrc), hs, by rw [← hax]; exact hxr |> fun h => by rw [hax] at h ⊢; exact h, Evol.refl _ _, Nat.le_refl _, hk⟩
    · have hnpos : 0 < n * ti.size := Nat.mul_pos (by omega) hszp
      by_cases hroom : k + n ≤ cap
      · rcases hcase with ⟨hsq, rfl, hsize⟩ | ⟨hk0, hc0⟩
        · rcases hrest with ⟨hz0, _⟩ | ⟨hpos, C, te, hh, hCs, hCle, h5⟩
          · have := Nat.mul_pos (show 0 < cap by omega) hszp; omega
          · have hkn : (k + n) * ti.size = k * ti.size + n * ti.size := Nat.add_mul _ _ _
            have hcapm : (k + n) * ti.size ≤ cap * ti.size := Nat.mul_le_mul_right _ hroom
            have hst := run_storeCells_at (P := P) (G.info b).blk (q - (G.info b).sub + k * ti.size) te news 0 C w hh (by rw [hCs]; omega) hsrc.one
            have happ := run_append_room' (P := P) w _ t tx o.type e i ht hi (G.info b).blk (q - (G.info b).sub) k cap (a.eval y) n news hsrc hroom (by rw [hsz]; exact hst)
            let i' : Info := { (G.info b) with len := cs.length + xs.length }
            have hev : Evol G H.length (G.setInfo b i') := ⟨fun _ _ h => h, fun m _ => by
              by_cases hm : m = b
              · subst hm; exact .inr ⟨hr, by rw [G.setInfo_same]; exact hr, by rw [G.setInfo_same, hlen]; show cs.length < cs.length + xs.length; omega⟩
              · exact .inl (G.setInfo_other i' hm)⟩
            have hown := hs.own b _ hbk (by simpa [Blk.live] using hpos)
            let C' := (C.toList.take (q - (G.info b).sub + k * ti.size + 0) ++ news ++ C.toList.drop (q - (G.info b).sub + k * ti.size + 0 + news.length)).toArray
            have hsim : Sim Γ w0 (G.setInfo b i') (H.set b (.row ti.size (cs ++ xs))) (w.setRow (G.info b).blk C') := by
              refine hs.set hbk hev (fun m _ hm => G.setInfo_other i' hm) (hs.below.trans ⟨rfl, rfl, rfl, by simp, fun m hm => setRow_other w _ m _ (by omega)⟩) (by simp) (fun m D hD hm hl => setRow_other w _ _ _ (fun e => hm (hs.inj m b D _ hD hbk hl (by simpa [Blk.live] using hpos) e)))
                (fun ad' v ha' => ?_) (fun m D hD _ hl => (hs.own m D hD hl).2.2) ?_ (fun _ => ?_)
              · have hc := hs.mem ad' v ha'
                have hne : ad'.block ≠ (G.info b).blk := by
                  intro e
                  obtain ⟨g, o', s⟩ := ad'
                  simp only at e
                  subst e
                  have : G.M ⟨(G.info b).blk, o', s⟩ = some v := ha'
                  rw [hown.2.2 o' s] at this; cases this
                rw [cell_setRow_other w _ _ _ hne]; exact hc
              · rw [G.setInfo_same]
                refine ⟨hr, by simp [i'], hszp, by simp [i']; omega, hxb, .inr ⟨hpos, C', te, setRow_heap w _ C _ te _ hh, ?_, ?_, fun j c u hc hu => ?_⟩⟩
                · show C'.size = (G.info b).size
                  simp [C']; omega
                · show (cs ++ xs).length - (G.info b).sub ≤ C'.size
                  simp [C']; omega
                · have hu' : (C.toList.take (q - (G.info b).sub + k * ti.size) ++ news ++ C.toList.drop (q - (G.info b).sub + k * ti.size + news.length))[j]? = some u := by simpa [C'] using hu
                  have hCl : C.toList.length = (G.info b).size := Array.length_toList.trans hCs
                  rw [get_splice _ _ _ _ (by omega)] at hu'
                  have hc' : (cs ++ xs)[(G.info b).sub + j]? = some c := hc
                  have hjl := (List.getElem?_eq_some_iff.1 hc').1
                  rw [List.length_append] at hjl
                  by_cases c1 : (G.info b).sub + j < cs.length
                  · rw [List.getElem?_append_left c1] at hc'
                    rw [if_pos (by omega)] at hu'
                    have := h5 j c u hc' (by simpa using hu')
                    exact ⟨this.1.mono _ hev (Nat.le_refl _), this.2⟩
                  · rw [List.getElem?_append_right (by omega)] at hc'
                    rw [if_neg (by omega), if_pos (by omega), show j - (q - (G.info b).sub + k * ti.size) = (G.info b).sub + j - cs.length by omega] at hu'
                    exact ⟨(hnr.2 _ c u hc' hu').mono _ (hev.less (Nat.zero_le _)) (Nat.zero_le _), hsrc.one u (List.mem_of_getElem? hu')⟩
              · rw [G.setInfo_same]
                exact ⟨hown.1, by simp [i']; exact hown.2.1, hown.2.2, fun m D hD hm hl e => hm (hs.inj m b D _ hD hbk hl (by simpa [Blk.live] using hpos) e)⟩
            refine ⟨_, _, G.setInfo b i', _, _, hrun _ _ happ, hsim, ?_, hev, by simp, hk⟩
            refine .row _ b q (k + n) ti.size _ cap hbd' (by simp; exact hblt) (by rw [G.setInfo_same]; exact hr) (by rw [G.setInfo_same]; show _ ≤ cs.length + xs.length; omega) (fun _ => ⟨hroom, .inl ?_⟩)
            rw [G.setInfo_same]
            exact ⟨hsq, rfl, hsize⟩
        · omega
      · have hold : ∃ olds : List Value, (Builtin.firstCells i.size k (.slice ad k cap)).run P w.drew = .ok olds.toArray w.drew ∧ olds.length = k * ti.size ∧ ∀ (j : Nat) c u, cs[q + j]? = some c → olds[j]? = some u → Rep G H.length c u ∧ u.oneCell' = true := by
          rcases hcase with ⟨hsq, rfl, hsize⟩ | ⟨hk0, hc0⟩
          · rcases hrest with ⟨hz0, hcl⟩ | ⟨hpos, C, te, hh, hCs, hCle, h5⟩
            · have hk0 : k = 0 := by
                rcases Nat.eq_zero_or_pos k with h | h
                · exact h
                · have := Nat.mul_pos h hszp; omega
              subst hk0
              exact ⟨[], by simp [Builtin.firstCells, loadCells, loadCellsFrom], by simp, fun j c u _ hu => by simp at hu⟩
            · refine ⟨(C.toList.drop (q - (G.info b).sub)).take (k * ti.size), ?_, ?_, fun j c u hc hu => ?_⟩
              · rw [hsz]
                refine run_firstCells_some (P := P) w.drew ti.size k _ k cap _ ?_ (fun j v hj => ?_)
                · rw [List.length_take, List.length_drop, Array.length_toList]; omega
                · rw [List.getElem?_take] at hj
                  split at hj
                  · rw [List.getElem?_drop] at hj
                    rw [Fw.add_at]
                    have hh' : w.drew.heap[(G.info b).blk]? = some (.cells C te (0, 0)) := hh
                    simp only [World.cell?, hh']
                    simpa using hj
                  · cases hj
              · rw [List.length_take, List.length_drop, Array.length_toList]; omega
              · rw [List.getElem?_take] at hu
                split at hu
                · rw [List.getElem?_drop] at hu
                  exact h5 (q - (G.info b).sub + j) c u (by rw [show (G.info b).sub + (q - (G.info b).sub + j) = q + j by omega]; exact hc) (by simpa using hu)
                · cases hu
          · subst hk0
            refine ⟨[], ?_, by simp, fun j c u _ hu => by simp at hu⟩
            cases ad <;> simp [Builtin.firstCells, loadCells, loadCellsFrom]
        obtain ⟨olds, hold1, hold2, hold3⟩ := hold
        have hgrow := run_append_grow_src (P := P) w t tx o.type e i z ht hi hz ad k cap olds hold1 (a.eval y) n news hsrc (by omega) (by omega) (growslice_fits (by omega) (by rw [hby]; exact hbd))
        have hgc : k + n ≤ grownCap w (k + n) cap e := le_grownCap _ _ _ _
        generalize hcapg : grownCap w (k + n) cap e = ncap at hgrow hgc
        let C' := (olds ++ news).toArray ++ Builtin.zeroCells z.cells (ncap - (k + n))
        have hC's : C'.size = ncap * ti.size := by
          have h1 : (Builtin.zeroCells z.cells (ncap - (k + n))).size = (ncap - (k + n)) * ti.size := by simp [Builtin.zeroCells, hzs]
          show ((olds ++ news).toArray ++ _).size = _
          rw [Array.size_append, h1]
          simp only [List.size_toArray, List.length_append, hold2, hnnl]
          rw [← Nat.add_mul, ← Nat.add_mul]
          congr 1
          omega
        have hncp : 0 < ncap * ti.size := Nat.mul_pos (by omega) hszp
        let i' : Info := { blk := w.heap.size, len := cs.length + xs.length, size := ncap * ti.size, sub := q, isRow := true }
        have hev : Evol G H.length (G.setInfo b i') := ⟨fun _ _ h => h, fun m _ => by
          by_cases hm : m = b
          · subst hm; exact .inr ⟨hr, by rw [G.setInfo_same], by rw [G.setInfo_same, hlen]; show cs.length < cs.length + xs.length; omega⟩
          · exact .inl (G.setInfo_other i' hm)⟩
        have hsD := hs.drew
        have hsim : Sim Γ w0 (G.setInfo b i') (H.set b (.row ti.size (cs ++ xs))) (w.drew.alloc (.cells C' e)) := by
          refine hsD.set hbk hev (fun m _ hm => G.setInfo_other i' hm) (hsD.below.alloc hsD.size _) (by simp) (fun m D hD hm hl => Below.heap_alloc _ _ _ (hsD.own m D hD hl).2.1)
            (fun ad' v ha' => ?_) (fun m D hD _ hl => (hsD.own m D hD hl).2.2) ?_ (fun _ => ?_)
          · have hc := hsD.mem ad' v ha'
            rw [cell_of_heap (w := w.drew) (Below.heap_alloc _ _ _ (World.block_lt_of_cell? w.drew ad' hc))]; exact hc
          · rw [G.setInfo_same]
            refine ⟨rfl, by simp [i'], hszp, by simp [i']; omega, hxb, .inr ⟨hncp, C', e, heap_new w.drew _, hC's, ?_, fun j c u hc hu => ?_⟩⟩
            · show (cs ++ xs).length - q ≤ C'.size
              rw [hC's, List.length_append]
              have : (k + n) * ti.size ≤ ncap * ti.size := Nat.mul_le_mul_right _ hgc
              rw [Nat.add_mul] at this
              omega
            · have hc' : (cs ++ xs)[q + j]? = some c := hc
              have hjl := (List.getElem?_eq_some_iff.1 hc').1
              rw [List.length_append] at hjl
              have hu' : (olds ++ news)[j]? = some u := by
                have : ((olds ++ news).toArray ++ Builtin.zeroCells z.cells (ncap - (k + n)))[j]? = some u := hu
                rw [Array.getElem?_append_left (by simp; omega)] at this
                simpa using this
              by_cases c1 : q + j < cs.length
              · rw [List.getElem?_append_left c1] at hc'
                rw [List.getElem?_append_left (by omega)] at hu'
                have := hold3 j c u hc' hu'
                exact ⟨this.1.mono _ hev (Nat.le_refl _), this.2⟩
              · rw [List.getElem?_append_right (by omega)] at hc'
                rw [List.getElem?_append_right (by omega), show j - olds.length = q + j - cs.length by omega] at hu'
                exact ⟨(hnr.2 _ c u hc' hu').mono _ (hev.less (Nat.zero_le _)) (Nat.zero_le _), hsrc.one u (List.mem_of_getElem? hu')⟩
          · rw [G.setInfo_same]
            exact ⟨hs.size, by simp [i'], fun o' s => hs.M_new (Nat.le_refl _) o' s, fun m D hD _ hl e => by
              have := (hs.own m D hD hl).2.1
              have he' : (G.info m).blk = w.heap.size := e
              omega⟩
        refine ⟨_, _, G.setInfo b i', _, _, hrun _ _ hgrow, hsim, ?_, hev, by simp, hk⟩
        refine .row _ b q (k + n) ti.size _ ncap hbd' (by simp; exact hblt) (by rw [G.setInfo_same]) (by rw [G.setInfo_same, Nat.add_mul]; show _ ≤ cs.length + xs.length; omega) (fun _ => ⟨hgc, .inl ?_⟩)
        rw [G.setInfo_same]
        exact ⟨Nat.le_refl _, by show _ = some (⟨w.heap.size, q - q, none⟩ : Addr); rw [Nat.sub_self], by show q - q + _ = _; rw [Nat.sub_self, Nat.zero_add]⟩
theorem os_appendR {x y : Operand} {t tx e : TypeId} {d : TypeDesc} {ti : TI} {b q k : Nat} {cs xs : List PV} {n : Nat} (ho : o.op = .call { callee := .builtin .append, args := #[x, y], argTypes := #[t, tx] })
    (ht : P.underlying t = some (.slice e)) (he : tiOf P e = some ti) (htx : P.underlying tx = some d) (hd : (∃ e, d = .slice e) ∨ d = .string) (hx : ev Γ A x = .row b q k ti.size) (hbk : H[b]? = some (.row ti.size cs)) (hl : cs.length = q + k * ti.size)
    (hy : srcOf H ti.size (ev Γ A y) = some xs) (hyv : ∀ es f, ev Γ A y = .vec es f → ∀ e ∈ es, e.length = ti.size) (hn : alen (ev Γ A y) = some n) (hbd : (k + n) * ti.bytes ≤ 140737488355328) (hbd' : k + n ≤ 9223372036854775807)
    (hk : K (.row b q (k + n) ti.size) (H.set b (.row ti.size (cs ++ xs)))) : OStep P Γ o A H K :=
  ostep_value (by simp [ho]) fun w0 G w N a hs ha => append_row_sem ho ht he htx hd hbk hl hy hyv hn hbd hbd' hk hs ha (by have := ha.ev hs.glob x; rw [hx] at this; exact this)
end
end Go.Proofs.YtddnigahjahkbaaGreatDoor.Fw
namespace Go.Proofs.YtddnigahjahkbaaGreatDoor.Fw
set_option linter.unusedVariables false
set_option linter.unusedSimpArgs false
set_option maxRecDepth 100000
open Go.RowKit
def DSim (G : Ghost) (n : Nat) (D : List Nat) (ds : List Deferred) : Prop :=
  ds = D.map (fun b => { target := .collected (G.info b).blk, args := #[] }) ∧ ∀ b ∈ D, b < n ∧ (G.info b).isRow = false
theorem DSim.nil (G : Ghost) (n : Nat) : DSim G n [] [] := ⟨rfl, fun b h => by cases h⟩
theorem DSim.mono {G G' : Ghost} {n m : Nat} {D : List Nat} {ds : List Deferred} (h : DSim G n D ds) (he : Evol G n G') (hm : n ≤ m) : DSim G' m D ds := by
  have key : ∀ b ∈ D, G'.info b = G.info b := fun b hb => by
    have := h.2 b hb
    rcases he.info b this.1 with e | ⟨r, _, _⟩
    · exact e
    · rw [this.2] at r; cases r
  refine ⟨?_, fun b hb => ⟨by have := (h.2 b hb).1; omega, by rw [key b hb]; exact (h.2 b hb).2⟩⟩
  rw [h.1]
  exact List.map_congr_left fun b hb => by rw [key b hb]
abbrev Post := Exit → List (Nat × PV) → List Blk → List Nat → Prop
def Lift (Γ : Nat → PV) (w0 : World) (N : Nat) (G : Ghost) (n : Nat) (Q : Post) : Exit → Act → World → Prop :=
  fun e a' w' => ∃ G' A' H' D', Sim Γ w0 G' H' w' ∧ ASim G' H'.length N A' a' ∧ DSim G' H'.length D' a'.defers ∧ Evol G n G' ∧ n ≤ H'.length ∧ Q e A' H' D'
def AWP (P : Program) (Γ : Nat → PV) (N : Nat) (ro : Option Nat) (c : Code) (A : List (Nat × PV)) (H : List Blk) (D : List Nat) (Q : Post) : Prop :=
  ∀ (w0 : World) (G : Ghost) (w : World) (a : Act), Sim Γ w0 G H w → ASim G H.length N A a → DSim G H.length D a.defers → c.wpIn (Fr ro) 0 P (Lift Γ w0 N G H.length Q) a w
def Post.then (K : List (Nat × PV) → List Blk → List Nat → Prop) (Q : Post) : Post
  | .normal, A, H, D => K A H D
  | e, A, H, D => Q e A H D
def Post.block (id : Nat) (Q : Post) : Post
  | .exit i, A, H, D => if i = id then Q .normal A H D else Q (.exit i) A H D
  | e, A, H, D => Q e A H D
section
variable {P : Program} {Γ : Nat → PV} {N : Nat} {ro : Option Nat} {A : List (Nat × PV)} {H : List Blk} {D : List Nat} {Q : Post}
theorem Lift.mono {w0 : World} {G : Ghost} {n : Nat} {Q' : Post} (hq : ∀ e A H D, Q e A H D → Q' e A H D) {e : Exit} {a : Act} {w : World} (h : Lift Γ w0 N G n Q e a w) : Lift Γ w0 N G n Q' e a w :=
  let ⟨G', A', H', D', h1, h2, h3, h4, h5, h6⟩ := h
  ⟨G', A', H', D', h1, h2, h3, h4, h5, hq _ _ _ _ h6⟩
theorem Lift.after {w0 : World} {G G1 : Ghost} {n n1 : Nat} (he : Evol G n G1) (hn : n ≤ n1) {e : Exit} {a : Act} {w : World} (h : Lift Γ w0 N G1 n1 Q e a w) : Lift Γ w0 N G n Q e a w :=
  let ⟨G', A', H', D', h1, h2, h3, h4, h5, h6⟩ := h
  ⟨G', A', H', D', h1, h2, h3, he.trans h4 hn, by omega, h6⟩
theorem AWP.mono {c : Code} {Q' : Post} (h : AWP P Γ N ro c A H D Q) (hq : ∀ e A H D, Q e A H D → Q' e A H D) : AWP P Γ N ro c A H D Q' :=
  fun w0 G w a hs ha hd => wpIn_mono (h w0 G w a hs ha hd) fun _ _ _ h => h.mono hq
theorem awp_seq {x y : Code} (h : AWP P Γ N ro x A H D (Post.then (fun A' H' D' => AWP P Γ N ro y A' H' D' Q) Q)) : AWP P Γ N ro (.seq x y) A H D Q := by
  intro w0 G w a hs ha hd
  refine wpIn_seq (wpIn_mono (h w0 G w a hs ha hd) fun e a' w' hl => ?_)
  obtain ⟨G', A', H', D', h1, h2, h3, h4, h5, h6⟩ := hl
  cases e with
  | normal => exact wpIn_mono (h6 w0 G' w' a' h1 h2 h3) fun _ _ _ h => h.after h4 h5
  | _ => exact ⟨G', A', H', D', h1, h2, h3, h4, h5, h6⟩
theorem awp_cond {c : Operand} {x y : Code} {b : Bool} (hc : ev Γ A c = .bool b) (h : AWP P Γ N ro (if b then x else y) A H D Q) : AWP P Γ N ro (.cond c x y) A H D Q := by
  intro w0 G w a hs ha hd
  have h1 := ha.ev hs.glob c
  rw [hc] at h1
  exact wpIn_cond h1.bool_inv (h w0 G w a hs ha hd)
theorem awp_skip (h : Q .normal A H D) : AWP P Γ N ro .skip A H D Q := fun w0 G w a hs ha hd => wpIn_skip ⟨G, A, H, D, hs, ha, hd, Evol.refl _ _, Nat.le_refl _, h⟩
theorem awp_ret (h : Q .ret A H D) : AWP P Γ N ro .ret A H D Q := fun w0 G w a hs ha hd => wpIn_ret ⟨G, A, H, D, hs, ha, hd, Evol.refl _ _, Nat.le_refl _, h⟩
theorem awp_exit {id : Nat} (h : Q (.exit id) A H D) : AWP P Γ N ro (.exit id) A H D Q := fun w0 G w a hs ha hd => wpIn_exit ⟨G, A, H, D, hs, ha, hd, Evol.refl _ _, Nat.le_refl _, h⟩
def Post.noGoto (Q : Post) : Post
  | .goto _, _, _, _ => False
  | e, A, H, D => Q e A H D
theorem awp_block {id : Nat} {c : Code} (h : AWP P Γ N ro c A H D (Post.block id Q)) : AWP P Γ N ro (.block id c) A H D Q := by
  intro w0 G w a hs ha hd
  refine wpIn_block (wpIn_mono (h w0 G w a hs ha hd) fun e a' w' hl => ?_)
  obtain ⟨G', A', H', D', h1, h2, h3, h4, h5, h6⟩ := hl
  cases e with
  | exit i =>
    simp only [Exit.inBlock, Post.block] at h6 ⊢
    by_cases hi : i = id
    · rw [if_pos hi] at h6 ⊢; exact ⟨G', A', H', D', h1, h2, h3, h4, h5, h6⟩
    · rw [if_neg hi] at h6 ⊢; exact ⟨G', A', H', D', h1, h2, h3, h4, h5, h6⟩
  | _ => exact ⟨G', A', H', D', h1, h2, h3, h4, h5, h6⟩
theorem awp_loop {c : Code} (I : Nat → List (Nat × PV) → List Blk → List Nat → Prop) {n : Nat} (h0 : I n A H D)
    (round : ∀ n A H D, I n A H D → AWP P Γ N ro c A H D (Post.then (fun A' H' D' => ∃ m, m < n ∧ I m A' H' D') Q)) : AWP P Γ N ro (.loop c) A H D Q := by
  intro w0 G w a hs ha hd b k cs hro hb hr
  have key : ∀ n A H D (G : Ghost) (w : World) (a : Act), I n A H D → Sim Γ w0 G H w → ASim G H.length N A a → DSim G H.length D a.defers →
      ∃ e a' w', Lift Γ w0 N G H.length Q e a' w' ∧ ArrivesIn (Machine.fenced P (Fr ro)) P (lone (b.atR a (.code c :: .inLoop c :: k)) cs w) b k cs e a' w' := by
    intro n
    induction n using Nat.strongRecOn with
    | _ n ih =>
      intro A H D G w a hI hs ha hd
      obtain ⟨e, a₁, w₁, hq, harr⟩ := round n A H D hI w0 G w a hs ha hd b (.inLoop c :: k) cs hro hb hr
      obtain ⟨G', A', H', D', h1, h2, h3, h4, h5, h6⟩ := hq
      cases e with
      | normal =>
        obtain ⟨m, hm, hI'⟩ := h6
        obtain ⟨e₂, a₂, w₂, hq₂, harr₂⟩ := ih m hm A' H' D' G' w₁ a₁ hI' h1 h2 h3
        exact ⟨e₂, a₂, w₂, hq₂.after h4 h5, .of_steps (StepsIn.trans harr (.one (fenced_calm hb hr rfl) stepR_inLoop)) harr₂⟩
      | exit id => exact ⟨_, a₁, w₁, ⟨G', A', H', D', h1, h2, h3, h4, h5, h6⟩, .pass (x := .inLoop c) rfl (fun _ _ => .inl (by simp)) harr⟩
      | goto l => exact ⟨_, a₁, w₁, ⟨G', A', H', D', h1, h2, h3, h4, h5, h6⟩, .pass (x := .inLoop c) rfl (fun _ _ => .inl (by simp)) harr⟩
      | ret => exact ⟨_, a₁, w₁, ⟨G', A', H', D', h1, h2, h3, h4, h5, h6⟩, .pass (x := .inLoop c) rfl (fun _ _ => .inl (by simp)) harr⟩
      | panic ch => exact ⟨_, a₁, w₁, ⟨G', A', H', D', h1, h2, h3, h4, h5, h6⟩, .pass (x := .inLoop c) rfl (fun _ _ => .inl (by simp)) harr⟩
      | outgrown => exact ⟨_, a₁, w₁, ⟨G', A', H', D', h1, h2, h3, h4, h5, h6⟩, .pass (x := .inLoop c) rfl (fun _ _ => .inl (by simp)) harr⟩
  obtain ⟨e, a', w', hq, harr⟩ := key n A H D G w a h0 hs ha hd
  exact ⟨e, a', w', hq, .of_steps (.one (fenced_calm hb hr rfl) stepR_loop) harr⟩
theorem awp_less {c : Code} {A' : List (Nat × PV)} (hs : ∀ t, alook A' t = alook A t ∨ alook A' t = .any) (h : AWP P Γ N ro c A' H D Q) : AWP P Γ N ro c A H D Q :=
  fun w0 G w a h1 h2 h3 => h w0 G w a h1 (h2.less hs) h3
def AOps (P : Program) (Γ : Nat → PV) (ops : Array Oper) (Q : List (Nat × PV) → List Blk → Prop) : List Oper → List (Nat × PV) → List Blk → Prop
  | [], A, H => Q A H
  | o :: rest, A, H =>
    match o.guard with
    | none => OStep P Γ o A H (fun p H' => AOps P Γ ops Q rest (aput A o.dst p) H')
    | some (j, want) => ∃ d, (ops[j]?).bind (·.dst) = some d ∧ ((∃ b, alook A d = .bool b ∧
        (if b = want then OStep P Γ o A H (fun p H' => AOps P Γ ops Q rest (aput A o.dst p) H') else AOps P Γ ops Q rest (aput A o.dst (.tup [])) H)) ∨
        (alook A d = .tup [] ∧ AOps P Γ ops Q rest (aput A o.dst (.tup [])) H))
def dstOk (N : Nat) (ops : Array Oper) : Bool := ops.toList.all fun o => match o.dst with | some d => decide (d < N) | none => true
theorem put_defers (a : Act) (d : Option Tmp) (v : Value) : (a.put d v).defers = a.defers := by cases d <;> rfl
theorem ASim.yielded {G : Ghost} {n : Nat} {a : Act} (h : ASim G n N A a) {ops : Array Oper} {j d : Nat} {b : Bool} (hd : (ops[j]?).bind (·.dst) = some d) (hb : alook A d = .bool b) : yielded ops a.tmps j = some b := by
  have h1 := h.2 d
  rw [hb] at h1
  have h2 := h1.bool_inv
  unfold Go.yielded
  rw [hd]
  simp only [Option.bind_some]
  cases hx : a.tmps[d]? with
  | none => rw [Array.getD_eq_getD_getElem?, hx] at h2; cases h2
  | some v => rw [Array.getD_eq_getD_getElem?, hx] at h2; simp only [Option.getD_some] at h2; subst h2; rfl
theorem ASim.unyielded {G : Ghost} {n : Nat} {a : Act} (h : ASim G n N A a) {ops : Array Oper} {j d : Nat} (hd : (ops[j]?).bind (·.dst) = some d) (hb : alook A d = .tup []) : Go.yielded ops a.tmps j = none := by
  have h1 := h.2 d
  rw [hb] at h1
  unfold Go.yielded
  rw [hd]
  simp only [Option.bind_some]
  cases hx : a.tmps[d]? with
  | none => rfl
  | some v =>
    rw [Array.getD_eq_getD_getElem?, hx] at h1
    simp only [Option.getD_some] at h1
    cases h1
    rfl
theorem Rep.unwanted (G : Ghost) (n : Nat) : Rep G n (.tup []) undef := .tup n [] #[] rfl fun i c v h => by simp at h
theorem aops_sound {ops : Array Oper} {K : List (Nat × PV) → List Blk → Prop} (hok : dstOk N ops = true) {ro : Option Nat} {w0 : World} : ∀ (rest : List Oper) (k : Nat) (A : List (Nat × PV)) (H : List Blk) (G : Ghost) (w : World) (a : Act),
    (∀ j, rest[j]? = ops[k + j]?) → AOps P Γ ops K rest A H → Sim Γ w0 G H w → ASim G H.length N A a → DSim G H.length D a.defers →
    wpOpsIn (Fr ro) 0 P ops (Lift Γ w0 N G H.length fun e A' H' D' => e = .normal ∧ K A' H' ∧ D' = D) (List.range' k rest.length) a w
  | [], k, A, H, G, w, a, _, h, hs, ha, hd => ⟨G, A, H, D, hs, ha, hd, Evol.refl _ _, Nat.le_refl _, rfl, h, rfl⟩
  | o :: rest, k, A, H, G, w, a, hr, h, hs, ha, hd => by
    have ho : ops[k]? = some o := by have := hr 0; simpa using this.symm
    have hr' : ∀ j, rest[j]? = ops[k + 1 + j]? := fun j => by have := hr (j + 1); rw [show k + 1 + j = k + (j + 1) by omega]; simpa using this
    have hdst : ∀ d, o.dst = some d → d < N := fun d hdd => by
      unfold dstOk at hok
      rw [List.all_eq_true] at hok
      have := hok o (by simpa using Array.mem_of_getElem? ho)
      rw [hdd] at this
      simpa using this
    have step : OStep P Γ o A H (fun p H' => AOps P Γ ops K rest (aput A o.dst p) H') →
        o.wpIn (Fr ro) 0 P a w (wpOpsIn (Fr ro) 0 P ops (Lift Γ w0 N G H.length fun e A' H' D' => e = .normal ∧ K A' H' ∧ D' = D) (List.range' (k + 1) rest.length)) (Lift Γ w0 N G H.length fun e A' H' D' => e = .normal ∧ K A' H' ∧ D' = D) := by
      intro hst
      refine hst ro w0 G w N a _ _ hs ha fun v w' G' p H' h1 h2 h3 h4 h5 => ?_
      have := aops_sound (ro := ro) hok rest (k + 1) (aput A o.dst p) H' G' w' (a.put o.dst v) hr' h5 h1 ((ha.mono h3 h4).put h2 hdst) (by rw [put_defers]; exact hd.mono h3 h4)
      exact wpOpsIn_mono this fun e a w h => h.after h3 h4
    simp only [List.length_cons, List.range'_succ, wpOpsIn, ho]
    simp only [AOps] at h
    cases hg : o.guard with
    | none =>
      rw [hg] at h
      simp only [Region.wanted, hg, if_true]
      exact step h
    | some g =>
      obtain ⟨j, want⟩ := g
      rw [hg] at h
      obtain ⟨d, h1, h⟩ := h
      rcases h with ⟨b, h2, h3⟩ | ⟨h2, h3⟩
      · have hy := ha.yielded h1 h2
        simp only [Region.wanted, hg, hy]
        by_cases hb : b = want
        · rw [if_pos hb] at h3
          rw [if_pos (by rw [hb]; simp)]
          exact step h3
        · rw [if_neg hb] at h3
          rw [if_neg (by simpa using hb)]
          exact ⟨fun _ _ => trivial, aops_sound hok rest (k + 1) (aput A o.dst (.tup [])) H G w (a.put o.dst undef) hr' h3 hs (ha.put (.unwanted _ _) hdst) (by rw [put_defers]; exact hd)⟩
      · have hy := ha.unyielded h1 h2
        simp only [Region.wanted, hg, hy]
        rw [if_neg (by simp)]
        exact ⟨fun _ _ => trivial, aops_sound hok rest (k + 1) (aput A o.dst (.tup [])) H G w (a.put o.dst undef) hr' h3 hs (ha.put (.unwanted _ _) hdst) (by rw [put_defers]; exact hd)⟩
 where
  wpOpsIn_mono {F : Fence} {n : Nat} {ops : Array Oper} {Q Q' : Exit → Act → World → Prop} : ∀ {l : List Nat} {a : Act} {w : World}, wpOpsIn F n P ops Q l a w → (∀ e a w, Q e a w → Q' e a w) → wpOpsIn F n P ops Q' l a w
    | [], _, _, h, hq => hq _ _ _ h
    | i :: rest, a, w, h, hq => by
      simp only [wpOpsIn] at h ⊢
      cases ho : ops[i]? with
      | none => rw [ho] at h; exact wpOpsIn_mono h hq
      | some o =>
        rw [ho] at h
        simp only at h ⊢
        split
        · rename_i hw
          rw [if_pos hw] at h
          refine ⟨h.1, ?_⟩
          have h2 := h.2
          generalize (o.semAt F.round a.eval).run P w = r at h2 ⊢
          have hlo : LetsOut Q → LetsOut Q' := fun ⟨a, w, h⟩ => ⟨a, w, hq _ _ _ h⟩
          cases r with
          | ok nx w' =>
            cases nx <;> simp only [Oper.uponIn] at h2 ⊢ <;> first
              | exact wpOpsIn_mono h2 hq
              | exact ⟨h2.1, h2.2.mono fun e w'' he => by cases e <;> first | exact wpOpsIn_mono he hq | exact hq _ _ _ he | exact hlo he⟩
              | exact ⟨h2.1, h2.2.mono fun e w'' he => wpOpsIn_mono he hq⟩
              | exact h2
          | halt x w' => cases x <;> simp only [Oper.uponIn] at h2 ⊢ <;> first | exact hq _ _ _ h2 | exact h2
        · rename_i hw
          rw [if_neg hw] at h
          exact ⟨h.1, wpOpsIn_mono h.2 hq⟩
theorem awp_region {id : Nat} {ops : Array Oper} (hok : dstOk N ops = true) (h : AOps P Γ ops (fun A' H' => Q .normal A' H' D) ops.toList A H) : AWP P Γ N ro (.region id ops false) A H D Q := by
  intro w0 G w a hs ha hd
  refine wpIn_region ?_
  have := aops_sound (ro := ro) hok ops.toList 0 A H G w a (fun j => by simp) h hs ha hd
  rw [List.range_eq_range']
  rw [Array.length_toList] at this
  exact aops_sound.wpOpsIn_mono this fun e a w h => h.mono fun e A H D' ⟨h1, h2, h3⟩ => by subst h1 h3; exact h2
end
end Go.Proofs.YtddnigahjahkbaaGreatDoor.Fw
namespace Go.Proofs.YtddnigahjahkbaaGreatDoor.Fw
set_option linter.unusedVariables false
set_option linter.unusedSimpArgs false
set_option maxRecDepth 100000
open Go.RowKit
def ACalls (P : Program) (Γ : Nat → PV) (f : FuncId) (args : List PV) (H : List Blk) (R : PV → List Blk → Prop) : Prop :=
  ∀ (w0 : World) (G : Ghost) (w : World) (vs : Array Value), Sim Γ w0 G H w → Reps G H.length args vs.toList →
    CallsIn Fence.wide 0 P f vs w fun e w' => ∃ v p H' G', e = .returned v ∧ Sim Γ w0 G' H' w' ∧ Rep G' H'.length p v ∧ Evol G H.length G' ∧ H.length ≤ H'.length ∧ R p H'
def Gives (P : Program) (Γ : Nat → PV) (f : FuncId) (args : List PV) (p : PV) : Prop := ∀ H, ACalls P Γ f args H fun q H' => q = p ∧ H' = H
theorem ACalls.mono {P : Program} {Γ : Nat → PV} {f : FuncId} {args : List PV} {H : List Blk} {R R' : PV → List Blk → Prop} (h : ACalls P Γ f args H R) (hr : ∀ p H', R p H' → R' p H') : ACalls P Γ f args H R' :=
  fun w0 G w vs hs ha => (h w0 G w vs hs ha).mono fun _ _ ⟨v, p, H', G', h1, h2, h3, h4, h5, h6⟩ => ⟨v, p, H', G', h1, h2, h3, h4, h5, hr _ _ h6⟩
def Enters (P : Program) (f : FuncId) : Prop := ∀ args w, (callFunc f args).run P w = .ok (.enter f args) w
theorem enters_of {P : Program} {f : FuncId} {fn : Func} (hf : P.funcs[f]? = some fn) (hn : (fn.name == "runtime.NumGoroutine") = false) (hb : fn.body.isNone = false) : Enters P f := fun args w => by
  have hn' : fn.name ≠ "runtime.NumGoroutine" := by simpa using hn
  obtain ⟨c, hc⟩ : ∃ c, fn.body = some c := by
    cases hbb : fn.body with
    | none => rw [hbb] at hb; cases hb
    | some c => exact ⟨c, rfl⟩
  simp [callFunc, program, Sem.run, hf, hn', hc]
section
variable {P : Program} {Γ : Nat → PV} {N : Nat} {A : List (Nat × PV)} {H : List Blk} {D : List Nat} {Q : Post} {o : Oper} {K : PV → List Blk → Prop}
theorem os_call {x : Operand} {args : Array Operand} {ts : Array TypeId} {f : FuncId} {fs cs : List PV} (ho : o.op = .call { callee := .value x, args := args, argTypes := ts }) (hx : ev Γ A x = .func (.func f) fs cs) (he : Enters P f)
    (h : ACalls P Γ f (fs ++ args.toList.map (ev Γ A) ++ cs) H K) : OStep P Γ o A H K := by
  intro ro w0 G w N a next Q hs ha hn
  refine wpIn_of_upon (by simp [ho]) ?_
  have hxr := ha.ev hs.glob x
  rw [hx] at hxr
  generalize hax : a.eval x = v at hxr
  cases hxr with
  | func _ _ _ _ fs' cs' h1 h2 h3 h4 =>
    have hrun : (execOp a.eval o).run P w = .ok (.enter f (fs' ++ args.map a.eval ++ cs')) w := by
      have he' : ∀ args w, (callFunc f args).run P w = .ok (.enter f args) w := he
      simp [execOp, ho, resolve, hax, Deferred.ofValue, invoke, he']
    rw [hrun]
    have hm := map_ev hs ha args
    have hreps : Reps G H.length (fs ++ args.toList.map (ev Γ A) ++ cs) (fs' ++ args.map a.eval ++ cs').toList := by
      rw [Array.toList_append, Array.toList_append]
      refine Reps.append (Reps.append ⟨by simpa using h1, fun i p v hp hv => h3 i p v hp (by simpa using hv)⟩ ⟨by simp, fun i p v hp hv => hm.2 i p v hp (by simpa using hv)⟩) ⟨by simpa using h2, fun i p v hp hv => h4 i p v hp (by simpa using hv)⟩
    refine ⟨fun hd => by simp [Fence.wide] at hd, ?_⟩
    have := h w0 G w _ hs hreps
    refine CallsIn.mono (F := Fr ro) this fun e w' he => ?_
    obtain ⟨v, p, H', G', rfl, h1, h2, h3, h4, h5⟩ := he
    exact hn v w' G' p H' h1 h2 h3 h4 h5
theorem os_fn {x : Operand} {args : Array Operand} {ts : Array TypeId} {f : FuncId} {fs cs : List PV} {p : PV} (ho : o.op = .call { callee := .value x, args := args, argTypes := ts }) (hx : ev Γ A x = .func (.func f) fs cs) (he : Enters P f)
    (h : Gives P Γ f (fs ++ args.toList.map (ev Γ A) ++ cs) p) (hk : K p H) : OStep P Γ o A H K :=
  os_call ho hx he ((h H).mono fun q H' ⟨h1, h2⟩ => by subst h1 h2; exact hk)
def initA : Nat → List PV → List (Nat × PV)
  | _, [] => []
  | k, p :: ps => (k, p) :: initA (k + 1) ps
theorem initA_look : ∀ (ps : List PV) (k t : Nat), alook (initA k ps) t = if k ≤ t then (ps[t - k]?).getD .any else .any
  | [], k, t => by simp [initA, alook]
  | p :: ps, k, t => by
    simp only [initA, alook]
    by_cases h : t = k
    · subst h; simp
    · rw [if_neg h, initA_look ps (k + 1) t]
      by_cases h2 : k ≤ t
      · rw [if_pos (by omega), if_pos h2, show t - k = (t - (k + 1)) + 1 by omega, List.getElem?_cons_succ]
      · rw [if_neg (by omega), if_neg h2]
def resVal (tmps : Array Value) : ResultVar → Sem Value
  | .tmp t => pure (tmps.getD t undef)
  | .cell a t => do loadVar t (← asAddr (tmps.getD a undef))
theorem results_eq (fn : Func) (tmps : Array Value) : results fn tmps = (do let vs ← fn.results.mapM (resVal tmps); pure (if h : vs.size = 1 then vs[0] else .tuple vs)) := rfl
def ares1 (P : Program) (Γ : Nat → PV) (A : List (Nat × PV)) (H : List Blk) : ResultVar → Option PV
  | .tmp t => some (alook A t)
  | .cell t ty => match rd Γ A H (.tmp t), tiOf P ty with
    | some cs, some ti => if ti.agg then (if ti.size ≤ cs.length then some (.agg (cs.take ti.size)) else none) else cs[0]?
    | _, _ => none
def aresL (P : Program) (Γ : Nat → PV) (A : List (Nat × PV)) (H : List Blk) : List ResultVar → Option (List PV)
  | [] => some []
  | r :: rs => match ares1 P Γ A H r, aresL P Γ A H rs with
    | some p, some ps => some (p :: ps)
    | _, _ => none
def ares (P : Program) (Γ : Nat → PV) (A : List (Nat × PV)) (H : List Blk) (rs : List ResultVar) : Option PV :=
  match aresL P Γ A H rs with
  | some [p] => some p
  | some ps => some (.tup ps)
  | none => none
theorem ares1_spec {w0 w : World} {G : Ghost} {a : Act} {r : ResultVar} {p : PV} (hs : Sim Γ w0 G H w) (ha : ASim G H.length N A a) (h : ares1 P Γ A H r = some p) :
    ∃ v, (resVal a.tmps r).run P w = .ok v w ∧ Rep G H.length p v := by
  cases r with
  | tmp t =>
    simp only [ares1, Option.some.injEq] at h
    subst h
    exact ⟨_, rfl, ha.2 t⟩
  | cell t ty =>
    simp only [ares1] at h
    split at h
    · rename_i cs ti hr ht
      let o' : Oper := { dst := none, op := .load ty (.tmp t), type := 0, pos := "", after := #[], guard := none }
      obtain ⟨b, q, he, hc⟩ := rd_spec hs ha hr
      have he' : a.tmps.getD t undef = .pointer (some ⟨b, q, none⟩) := he
      have hop : OStep P Γ o' A H (fun p' H' => p' = p ∧ H' = H) := os_load (o := o') (p := p) rfl ht hr (by
        split at h
        · rename_i hag
          rw [if_pos hag]
          split at h
          · rename_i hle
            exact ⟨hle, (Option.some.inj h).symm⟩
          · cases h
        · rename_i hag
          rw [if_neg hag]
          exact h) ⟨rfl, rfl⟩
      have hrun := hop none w0 G w N a (fun a' w' => ∃ v, (loadVar ty ⟨b, q, none⟩).run P w = .ok v w ∧ Rep G H.length p v) (fun _ _ _ => False) hs ha
      obtain ⟨i, d, z, hi, hd, hz, hzs, hsz, _, _, hagg, _⟩ := tiOf_spec ht
      simp only [resVal, asAddr, he', Sem.run_bind]
      have hload : ∃ v, (loadVar ty ⟨b, q, none⟩).run P w = .ok v w ∧ Rep G H.length p v := by
        have hra : (isAgg ty).run P w = .ok ti.agg w := by rw [run_agg hd, hagg]
        by_cases hag : ti.agg = true
        · rw [if_pos hag] at h
          split at h
          · rename_i hle
            obtain rfl := Option.some.inj h
            have hv : ∀ j, j < ti.size → ∃ v, w.cell? ⟨b, q + j, none⟩ = some v ∧ Rep G H.length (cs.getD j .any) v ∧ v.oneCell' = true := fun j hj => by
              have hj' : j < cs.length := by omega
              obtain ⟨v, h1, h2, h3⟩ := hc j cs[j] (List.getElem?_eq_getElem hj')
              exact ⟨v, h1, by simpa [List.getD, hj'] using h2, h3⟩
            let f : Nat → Value := fun j => (w.cell? ⟨b, q + j, none⟩).getD undef
            have hf : ∀ j, j < ti.size → w.cell? ((⟨b, q, none⟩ : Addr).add j) = some (f j) := fun j hj => by
              rw [Fw.add_at]
              obtain ⟨v, h1, _⟩ := hv j hj
              simp [f, h1]
            refine ⟨.agg ((List.range ti.size).map f).toArray, by simp [loadVar, hra, hag, run_size hi, hsz, run_loadCells (P := P) w ⟨b, q, none⟩ ti.size f hf], .agg _ _ _ (by simp; omega) (fun j c v hcj hvj => ?_) (fun j v hvj => ?_)⟩
            · rw [List.getElem?_take] at hcj
              split at hcj
              · rename_i hj
                obtain ⟨v', h1, h2, _⟩ := hv j hj
                have : v = v' := by simp [hj, f, h1] at hvj; exact hvj.symm
                subst this
                have : cs.getD j .any = c := by simp [List.getD, hcj]
                rw [this] at h2; exact h2
              · cases hcj
            · have hj : j < ti.size := by
                by_cases hj : j < ti.size
                · exact hj
                · simp [hj] at hvj
              obtain ⟨v', h1, _, h3⟩ := hv j hj
              have : v = v' := by simp [hj, f, h1] at hvj; exact hvj.symm
              subst this; exact h3
          · cases h
        · rw [if_neg hag] at h
          obtain ⟨v, h1, h2, h3⟩ := hc 0 p h
          simp only [Nat.add_zero] at h1
          exact ⟨v, by simp [loadVar, hra, hag, h1], h2⟩
      obtain ⟨v, h1, h2⟩ := hload
      exact ⟨v, by simp [h1], h2⟩
    · cases h
theorem ares_spec {w0 w : World} {G : Ghost} {a : Act} {fn : Func} {p : PV} (hs : Sim Γ w0 G H w) (ha : ASim G H.length N A a) (h : ares P Γ A H fn.results.toList = some p) : ∃ v, (results fn a.tmps).run P w = .ok v w ∧ Rep G H.length p v := by
  have key : ∀ (g : ResultVar → Sem Value), (∀ r p, ares1 P Γ A H r = some p → ∃ v, (g r).run P w = .ok v w ∧ Rep G H.length p v) → ∀ (l : List ResultVar) (ps : List PV), aresL P Γ A H l = some ps →
      ∃ vs, (l.mapM g).run P w = .ok vs w ∧ Reps G H.length ps vs := by
    intro g hg l
    induction l with
    | nil => intro ps h; simp only [aresL, Option.some.injEq] at h; subst h; exact ⟨[], by simp, Reps.nil _ _⟩
    | cons r l ih =>
      intro ps h
      simp only [aresL] at h
      split at h
      · rename_i p ps' h1 h2
        obtain rfl := Option.some.inj h
        obtain ⟨v, h3, h4⟩ := hg r p h1
        obtain ⟨vs, h5, h6⟩ := ih ps' h2
        exact ⟨v :: vs, by rw [List.mapM_cons]; simp [h3, h5], Reps.cons h4 h6⟩
      · cases h
  unfold ares at h
  have hres : ∀ ps, aresL P Γ A H fn.results.toList = some ps → ∃ vs : List Value, (results fn a.tmps).run P w = .ok (if h : vs.toArray.size = 1 then vs.toArray[0] else .tuple vs.toArray) w ∧ Reps G H.length ps vs := by
    intro ps hp
    obtain ⟨vs, h1, h2⟩ := key _ (fun r p hr => ares1_spec hs ha hr) _ ps hp
    refine ⟨vs, ?_, h2⟩
    rw [results_eq, Sem.run_bind, Array.mapM_eq_mapM_toList, Sem.run_map, h1]
    rfl
  split at h
  · rename_i q hq
    obtain rfl := Option.some.inj h
    obtain ⟨vs, h1, h2⟩ := hres _ hq
    obtain ⟨v, vs', rfl, h3, h4⟩ := h2.cons_inv
    have hv : vs' = [] := by have := h4.1; cases vs' with
      | nil => rfl
      | cons _ _ => simp at this
    subst hv
    exact ⟨v, by simpa using h1, h3⟩
  · rename_i ps hne hps
    obtain rfl := Option.some.inj h
    obtain ⟨vs, h1, h2⟩ := hres _ hps
    refine ⟨.tuple vs.toArray, ?_, .tup _ _ _ (by simpa using h2.1) fun i c v hc hv => h2.2 i c v hc (by simpa using hv)⟩
    rw [h1, dif_neg]
    intro hl
    have : ps.length = 1 := by rw [h2.1]; simpa using hl
    match ps, this with
    | [q], _ => exact hne q rfl
  · cases h
def RetQ (P : Program) (Γ : Nat → PV) (fn : Func) (n : Nat) (R : PV → List Blk → Prop) : Post := fun e A H D =>
  (e = .ret ∨ e = .normal) ∧ D.Nodup ∧ (∀ b ∈ D, H[b]? = some .dfr) ∧ ∃ p m, ares P Γ A H fn.results.toList = some p ∧ n ≤ m ∧ m ≤ H.length ∧ (∀ b ∈ D, m ≤ b) ∧ p.bd m = true ∧ (∀ B ∈ H.take m, B.bd m = true) ∧ R p (H.take m)
theorem leaves_dfr {w0 : World} {fn : Func} {G : Ghost} {n m : Nat} {p : PV} {R : PV → List Blk → Prop} {a : Act} {H0 : List Blk} (hm : m ≤ H0.length) (hn : n ≤ m) (hp : p.bd m = true) (hB : ∀ B ∈ H0.take m, B.bd m = true) (hR : R p (H0.take m)) (G0 : Ghost) (he : Evol G0 n G) :
    ∀ (D : List Nat) (ds : List Deferred) (H : List Blk) (w : World), DSim G H.length D ds → H.take m = H0.take m → H.length = H0.length → Sim Γ w0 G H w → ASim G H.length N A a → (∀ b ∈ D, H[b]? = some .dfr) → (∀ b ∈ D, m ≤ b) → D.Nodup →
    (∀ (H' : List Blk), H'.length = H.length → (∀ (k : Nat) cs, H[k]? = some (.box cs) → H'[k]? = some (.box cs)) → (∀ (k sz : Nat) cs, H[k]? = some (.row sz cs) → H'[k]? = some (.row sz cs)) → ares P Γ A H' fn.results.toList = some p) →
    LeavesInM Fence.wide 0 P fn a.tmps (fun e w' => ∃ v p H' G', e = .returned v ∧ Sim Γ w0 G' H' w' ∧ Rep G' H'.length p v ∧ Evol G0 n G' ∧ n ≤ H'.length ∧ R p H') ds .returning w
  | [], ds, H, w, hd, ht, hl, hs, ha, _, _, _, hares => by
    rw [hd.1]
    obtain ⟨v, h1, h2⟩ := ares_spec hs ha (hares H rfl (fun _ _ h => h) (fun _ _ _ h => h))
    refine ⟨v, h1, v, p, H.take m, G, rfl, hs.take m (by omega) (by rw [ht]; exact hB), ?_, he, ?_, by rw [ht]; exact hR⟩
    · rw [List.length_take, Nat.min_eq_left (by omega)]; exact h2.cut m hp
    · rw [List.length_take, Nat.min_eq_left (by omega)]; exact hn
  | b :: D, ds, H, w, hd, ht, hl, hs, ha, hdf, hmb, hnd, hares => by
    rw [hd.1]
    simp only [List.map_cons, LeavesInM]
    have hb := hdf b (by simp)
    have hblk := hs.blk b _ hb
    have hbl := (List.getElem?_eq_some_iff.1 hb).1
    refine ⟨by simp, .inl ⟨_, _, rfl, run_takeDeferred hblk.2, ?_⟩⟩
    have hs' : Sim Γ w0 G (H.set b .dead) (w.putObj (G.info b).blk (.deferred none)) := by
      have hown := hs.own b _ hb rfl
      refine hs.setSame hb rfl (fun k hk => World.putObj_heap_other hk) (by simp) ⟨rfl, rfl, rfl⟩ trivial
    refine leaves_dfr hm hn hp hB hR G0 he D _ (H.set b .dead) _ ⟨rfl, fun c hc => by have := hd.2 c (by simp [hc]); simpa using this⟩ ?_ (by simp [hl]) hs' (by simpa using ha) (fun c hc => ?_) (fun c hc => hmb c (by simp [hc])) (List.nodup_cons.1 hnd).2 (fun H' hl' h1 h2 => ?_)
    · rw [List.take_set_of_le (hmb b (by simp))]; exact ht
    · have hne : c ≠ b := fun e => (List.nodup_cons.1 hnd).1 (e ▸ hc)
      rw [List.getElem?_set_ne (Ne.symm hne)]; exact hdf c (by simp [hc])
    · refine hares H' (by simpa using hl') (fun k cs hk => h1 k cs ?_) (fun k sz cs hk => h2 k sz cs ?_)
      · have hne : k ≠ b := fun e => by subst e; rw [hb] at hk; cases hk
        rw [List.getElem?_set_ne (Ne.symm hne)]; exact hk
      · have hne : k ≠ b := fun e => by subst e; rw [hb] at hk; cases hk
        rw [List.getElem?_set_ne (Ne.symm hne)]; exact hk
theorem rd_keep {H' : List Blk} {x : Operand} {cs : List PV} (h1 : ∀ (k : Nat) cs, H[k]? = some (.box cs) → H'[k]? = some (.box cs)) (h2 : ∀ (k sz : Nat) cs, H[k]? = some (.row sz cs) → H'[k]? = some (.row sz cs)) (h : rd Γ A H x = some cs) : rd Γ A H' x = some cs := by
  unfold rd at h ⊢
  split at h
  · exact h
  · split at h
    · rename_i hb; rw [h1 _ _ hb]; exact h
    · cases h
  · split at h
    · rename_i hb; rw [h2 _ _ _ hb]; exact h
    · cases h
  · cases h
theorem aresL_keep {H' : List Blk} (h1 : ∀ (k : Nat) cs, H[k]? = some (.box cs) → H'[k]? = some (.box cs)) (h2 : ∀ (k sz : Nat) cs, H[k]? = some (.row sz cs) → H'[k]? = some (.row sz cs)) : ∀ {l : List ResultVar} {ps : List PV}, aresL P Γ A H l = some ps → aresL P Γ A H' l = some ps
  | [], _, h => h
  | r :: l, ps, h => by
    simp only [aresL] at h ⊢
    split at h
    · rename_i p ps' hp hps
      have e1 : ares1 P Γ A H' r = some p := by
        cases r with
        | tmp t => exact hp
        | cell t ty =>
          simp only [ares1] at hp ⊢
          split at hp
          · rename_i cs ti hr ht
            rw [rd_keep h1 h2 hr, ht]; exact hp
          · cases hp
      rw [e1, aresL_keep h1 h2 hps]; exact h
    · cases h
theorem acalls_of_awp {f : FuncId} {fn : Func} {c : Code} {args : List PV} {R : PV → List Blk → Prop} (hf : P.funcs[f]? = some fn) (hb : fn.body = some c) (hN : args.length ≤ fn.ntmps)
    (h : (∀ B ∈ H, B.bd H.length = true) → AWP P Γ fn.ntmps none c (initA 0 args) H [] (RetQ P Γ fn H.length R)) : ACalls P Γ f args H R := by
  intro w0 G w vs hs hr
  have hl : args.length = vs.size := hr.1.trans Array.length_toList
  refine callsIn_of_wp_marks hf hb trivial ?_
  have ha : ASim G H.length fn.ntmps (initA 0 args) { tmps := vs ++ Array.replicate (fn.ntmps - vs.size) undef, defers := [] } := by
    refine ⟨by simp; omega, fun t => ?_⟩
    rw [initA_look, if_pos (Nat.zero_le _), Nat.sub_zero]
    cases hp : args[t]? with
    | none => exact .any _ _
    | some p =>
      have ht := (List.getElem?_eq_some_iff.1 hp).1
      have hv : vs.toList[t]? = some (vs[t]'(by omega)) := by rw [Array.getElem?_toList]; exact Array.getElem?_eq_getElem (by omega)
      have : (vs ++ Array.replicate (fn.ntmps - vs.size) undef).getD t undef = vs[t]'(by omega) := by
        rw [Array.getD_eq_getD_getElem?, Array.getElem?_append_left (by omega), Array.getElem?_eq_getElem (by omega)]; rfl
      rw [this]
      exact hr.2 t p _ hp hv
  refine wpIn_mono (h hs.bound w0 G w _ hs ha (DSim.nil _ _)) fun e a' w' hl' => ?_
  obtain ⟨G', A', H', D', h1, h2, h3, h4, h5, h6, h7, h8, p, m, h9, h10, h11, h12, h13, h14, h15⟩ := hl'
  have key := leaves_dfr (P := P) (N := fn.ntmps) (A := A') (fn := fn) (H0 := H') h11 h10 h13 h14 h15 G h4 D' a'.defers H' w' h3 rfl rfl h1 h2 h8 h12 h7 (fun H'' _ e1 e2 => by
    unfold ares at h9 ⊢
    split at h9
    · rename_i q hq; rw [aresL_keep e1 e2 hq]; exact h9
    · rename_i ps hne hps
      rw [aresL_keep e1 e2 hps]
      split
      · rename_i q hq; exact absurd hq (by intro hq'; cases hq'; exact hne q rfl)
      · rename_i hq; cases hq; exact h9
      · rename_i hq; cases hq
    · cases h9)
  rcases h6 with rfl | rfl <;> exact key
theorem fn_of_awp {f : FuncId} {fn : Func} {c : Code} {args : List PV} {p : PV} (hf : P.funcs[f]? = some fn) (hb : fn.body = some c) (hN : args.length ≤ fn.ntmps) (hp : p.plain = true)
    (h : ∀ H, AWP P Γ fn.ntmps none c (initA 0 args) H [] (fun e A' H' D' => (e = .ret ∨ e = .normal) ∧ D'.Nodup ∧ (∀ b ∈ D', H'[b]? = some .dfr ∧ H.length ≤ b) ∧ ares P Γ A' H' fn.results.toList = some p ∧ ∃ L, H' = H ++ L)) : Gives P Γ f args p := by
  intro H
  refine acalls_of_awp hf hb hN fun hbd => (h H).mono fun e A' H' D' ⟨h1, h2, h3, h4, L, h5⟩ => ?_
  subst h5
  have ht : (H ++ L).take H.length = H := List.take_left' rfl
  refine ⟨h1, h2, fun b hb => (h3 b hb).1, p, H.length, h4, Nat.le_refl _, by simp, fun b hb => (h3 b hb).2, PV.bd_mono (Nat.zero_le _) p hp, by rw [ht]; exact hbd, rfl, ht⟩
end
end Go.Proofs.YtddnigahjahkbaaGreatDoor.Fw
namespace Go.Proofs.YtddnigahjahkbaaGreatDoor.Fw
set_option linter.unusedVariables false
set_option linter.unusedSimpArgs false
set_option maxRecDepth 100000
open Go.RowKit
def eqTag : Option TypeDesc → Option Nat
  | some (.int _) => some 0
  | some .string => some 1
  | some .bool => some 2
  | _ => none
def eqTags (P : Program) : List Field → Option (List (Nat × Nat))
  | [] => some []
  | f :: fs => match eqTag (P.underlying f.type), eqTags P fs with
    | some k, some l => if (f.name == "_") = true then none else some ((f.offset, k) :: l)
    | _, _ => none
def eqOf (P : Program) (t : TypeId) : Option (List (Nat × Nat)) :=
  match P.underlying t with
  | some (.struct fs) => if P.stoodInHeld t = false ∧ P.eqGuardType P.depth t = false then eqTags P fs.toList else none
  | _ => none
def peq : Nat → PV → PV → Option Bool
  | 0, .int k a, .int k' b => if k = k' then some (decide (a = b)) else none
  | 1, .str a, .str b => some (decide (a = b))
  | 2, .bool a, .bool b => some (a == b)
  | _, _, _ => none
def aeqs : List (Nat × Nat) → List PV → List PV → Option Bool
  | [], _, _ => some true
  | (o, k) :: l, xs, ys => match xs[o]?, ys[o]? with
    | some p, some q => match peq k p q, aeqs l xs ys with
      | some b, some r => some (b && r)
      | _, _ => none
    | _, _ => none
section
variable {P : Program} {Γ : Nat → PV} {o : Oper} {A : List (Nat × PV)} {H : List Blk} {K : PV → List Blk → Prop}
theorem aeqs_spec {G : Ghost} {n : Nat} {xs ys : List PV} {us vs : Array Value} {w : World} (d : Nat) (hx : ∀ (i : Nat) c v, xs[i]? = some c → us[i]? = some v → Rep G n c v) (hxl : xs.length = us.size)
    (hy : ∀ (i : Nat) c v, ys[i]? = some c → vs[i]? = some v → Rep G n c v) (hyl : ys.length = vs.size) : ∀ (fs : List Field) (l : List (Nat × Nat)) (b : Bool), eqTags P fs = some l → aeqs l xs ys = some b → (Op.eqFields (d + 1) us vs fs).run P w = .ok b w
  | [], l, b, hl, hb => by
    simp only [eqTags, Option.some.injEq] at hl
    subst hl
    simp only [aeqs, Option.some.injEq] at hb
    subst hb
    simp [Op.eqFields]
  | f :: fs, l, b, hl, hb => by
    simp only [eqTags] at hl
    split at hl
    · rename_i k l' hk hl'
      split at hl
      · cases hl
      · rename_i hn
        simp only [Option.some.injEq] at hl
        subst hl
        simp only [aeqs] at hb
        split at hb
        · rename_i p q hp hq
          split at hb
          · rename_i b1 r hb1 hr
            simp only [Option.some.injEq] at hb
            subst hb
            have hpl := (List.getElem?_eq_some_iff.1 hp).1
            have hql := (List.getElem?_eq_some_iff.1 hq).1
            have hu : us[f.offset]? = some (us[f.offset]'(by omega)) := Array.getElem?_eq_getElem (by omega)
            have hv : vs[f.offset]? = some (vs[f.offset]'(by omega)) := Array.getElem?_eq_getElem (by omega)
            have ru := hx _ _ _ hp hu
            have rv := hy _ _ _ hq hv
            obtain ⟨ty, hty, hag⟩ : ∃ ty, P.underlying f.type = some ty ∧ aggD ty = false := by
              cases ht : P.underlying f.type with
              | none => rw [ht] at hk; cases hk
              | some ty => rw [ht] at hk; exact ⟨ty, rfl, by cases ty <;> first | rfl | cases hk⟩
            have hpart : ∀ (cs : Array Value) v, cs[f.offset]? = some v → (part f.type cs f.offset).run P w = .ok v w := fun cs v hc => by
              simp [part, run_agg hty, hag, hc]
            have heq : (Op.equalIn (d + 1) f.type (us[f.offset]'(by omega)) (vs[f.offset]'(by omega))).run P w = .ok b1 w := by
              generalize us[f.offset]'(by omega) = u at ru
              generalize vs[f.offset]'(by omega) = v at rv
              cases ty <;> rw [hty] at hk <;> simp only [eqTag, Option.some.injEq, reduceCtorEq] at hk <;> subst hk <;> cases p <;> cases q <;> simp only [peq, reduceCtorEq] at hb1
              · rw [ru.bool_inv, rv.bool_inv, run_equalIn_bool' w d f.type _ _ hty]
                cases hb1; rfl
              · split at hb1
                · rename_i e
                  subst e
                  rw [ru.int_inv, rv.int_inv, run_equalIn_int w d f.type _ _ _ _ hty]
                  cases hb1; rfl
                · cases hb1
              · rw [ru.str_inv, rv.str_inv]
                cases hb1
                rename_i a c
                have : ((⟨a.toArray⟩ : ByteArray) == ⟨c.toArray⟩) = decide (a = c) := by
                  rw [Bool.eq_iff_iff, MapKept.bytes_beq]
                  simp
                simp [Op.equalIn, run_under hty, this]
            have ih := aeqs_spec (w := w) d hx hxl hy hyl fs l' r hl' hr
            have hn' : f.name ≠ "_" := by simpa using hn
            simp only [Op.eqFields, if_pos hn', Sem.run_bind, hpart us _ hu, hpart vs _ hv, heq, Result.andThen_ok]
            cases b1 with
            | false => simp
            | true => simpa using ih
          · cases hb
        · cases hb
    · cases hl
theorem os_eqAgg {op : BinOp} {t ty : TypeId} {x y : Operand} {xs ys : List PV} {l : List (Nat × Nat)} {b : Bool} {p : PV} (ho : o.op = .binOp op t x y ty) (ht : eqOf P t = some l) (hx : ev Γ A x = .agg xs) (hy : ev Γ A y = .agg ys)
    (hb : aeqs l xs ys = some b) (h : eqv op b = some p) (hk : K p H) : OStep P Γ o A H K :=
  ostep_pure (by simp [ho]) _ hk fun w0 G w N a hs ha => by
    have h1 := ha.ev hs.glob x
    have h2 := ha.ev hs.glob y
    rw [hx] at h1; rw [hy] at h2
    unfold eqOf at ht
    split at ht
    · rename_i fs hu
      split at ht
      · rename_i hc
        generalize hax : a.eval x = u at h1
        generalize hay : a.eval y = v at h2
        cases h1 with
        | agg _ _ us k1 k2 k3 =>
          cases h2 with
          | agg _ _ vs m1 m2 m3 =>
            have hf : P.fieldsOf t = fs := by simp [Program.fieldsOf, hu]
            have he : (Op.equalIn 10000 t (.agg us) (.agg vs)).run P w = .ok b w := by
              rw [run_equalIn_struct (P := P) w 9999 t us vs (by rw [hf]; exact hu) hc.1, hf]
              exact aeqs_spec 9998 k2 k1 m2 m1 fs.toList l b ht hb
            obtain ⟨z, hz, hr⟩ := eq_run (P := P) (op := op) (t := t) (x := x) (y := y) (u := .agg us) (v := .agg vs) (w := w) (b := b) (run_eqGuard_agg w op t x y us vs hc.2) (fun op ho => by rcases ho with rfl | rfl <;> simp [binOp]) he h G H.length
            refine ⟨z, ?_, hr⟩
            simp only [execOp, ho, Sem.run_bind, hax, hay] at hz ⊢
            rw [hz]; rfl
      · cases ht
    · cases ht
end
end Go.Proofs.YtddnigahjahkbaaGreatDoor.Fw
namespace Go.Proofs.YtddnigahjahkbaaGreatDoor.Fw
set_option linter.unusedVariables false
set_option linter.unusedSimpArgs false
set_option maxRecDepth 100000
open Go.RowKit
def boxAt (H : List Blk) (b : Nat) : Option (List PV) :=
  match H[b]? with
  | some (.box cs) => some cs
  | _ => none
def nilOf : TypeDesc → Value → Bool
  | .pointer _, .pointer none => true
  | .map _ _, .map none => true
  | .func _ _ _, .nilFunc => true
  | .interface _, .nilIface => true
  | .slice _, .slice none 0 0 => true
  | _, _ => false
theorem nilOf_spec {d : TypeDesc} {c : Value} (h : nilOf d c = true) : c = nilC d := by
  unfold nilOf at h
  split at h <;> first | rfl | cases h
def nilStep (P : Program) (op : BinOp) (t : TypeId) (p : PV) (y : Operand) : Option PV :=
  match y with
  | .const c => match P.underlying t with
    | some d => if nilOf d c = true then (match isNil d p with | some b => eqv op b | none => none) else none
    | none => none
  | _ => none
def step1 (P : Program) (Γ : Nat → PV) (A : List (Nat × PV)) (H : List Blk) : Op → Option (PV × List Blk)
  | .move x => some (ev Γ A x, H)
  | .assign x => some (ev Γ A x, H)
  | .pick c x y => match ev Γ A c with
    | .bool b => some (if b then ev Γ A x else ev Γ A y, H)
    | _ => none
  | .alloc t => match tiOf P t with
    | some ti => some (.ptr H.length 0, H ++ [.box ti.zero])
    | none => none
  | .box _ x => if (ev Γ A x).shaped = true then some (.ptr H.length 0, H ++ [.box (ev Γ A x).cells]) else none
  | .load t x => match rd Γ A H x, tiOf P t with
    | some cs, some ti => if ti.agg = true then (if ti.size ≤ cs.length then some (.agg (cs.take ti.size), H) else none) else (match cs[0]? with | some p => some (p, H) | none => none)
    | _, _ => none
  | .store t x y => match ev Γ A x, tiOf P t with
    | .ptr b q, some ti => match boxAt H b with
      | some cs => if (ev Γ A y).shaped = true ∧ (ev Γ A y).cells.length = ti.size ∧ q + ti.size ≤ cs.length then some (.any, H.set b (.box (splice cs q (ev Γ A y).cells))) else none
      | none => none
    | _, _ => none
  | .fieldAddr s x f => match fldOf P s f with
    | some (off, _, _) => match shift (ev Γ A x) off with
      | some p => some (p, H)
      | none => none
    | none => none
  | .field s x f => match fldOf P s f, ev Γ A x with
    | some (off, size, ag), .agg cs => if ag = true then (if off + size ≤ cs.length then some (.agg ((cs.drop off).take size), H) else none) else (match cs[off]? with | some p => some (p, H) | none => none)
    | _, _ => none
  | .binOp op t x y _ => match ev Γ A x, ev Γ A y with
    | .bool b, .bool c => match P.underlying t, eqv op (b == c) with
      | some .bool, some p => some (p, H)
      | _, _ => none
    | .agg xs, .agg ys => match eqOf P t with
      | some l => match aeqs l xs ys with
        | some b => match eqv op b with
          | some r => some (r, H)
          | none => none
        | none => none
      | none => none
    | p, q => match abin op p q with
      | some r => some (r, H)
      | none => match nilStep P op t p y with
        | some r => some (r, H)
        | none => none
  | .unOp .not _ x => match ev Γ A x with
    | .bool b => some (.bool !b, H)
    | _ => none
  | .unOp .neg _ x => match ev Γ A x with
    | .int k n => some (.int k (k.wrap (0 - n)), H)
    | _ => none
  | .convert s t x => match P.underlying s, P.underlying t, ev Γ A x with
    | some _, some (.int k'), .int _ n => some (.int k' (k'.wrap n), H)
    | some _, some .string, .str u => some (.str u, H)
    | _, _, _ => none
  | .nilCheck x => match ev Γ A x with
    | .ptr b q => some (.ptr b q, H)
    | .cptr cs => some (.cptr cs, H)
    | .eptr b q l => some (.eptr b q l, H)
    | _ => none
  | .extract x i => match ev Γ A x with
    | .tup ps => match ps[i]? with
      | some p => some (p, H)
      | none => none
    | _ => none
  | .makeFunc fn fs cs => some (.func fn (fs.toList.map (ev Γ A)) (cs.toList.map (ev Γ A)), H)
  | .makeInterface t x => match P.underlying t with
    | some (.interface _) => none
    | some _ => some (.iface t (ev Γ A x), H)
    | none => none
  | .build t parts => match tiOf P t, plOf P t with
    | some ti, some pl => match abuild (fun i => pl[i]?) ti.zero (parts.toList.map fun x => (x.1, ev Γ A x.2)) with
      | some cs => some (.agg cs, H)
      | none => none
    | _, _ => none
  | .buildSlice t len parts => match P.underlying t with
    | some (.slice e) => match tiOf P e with
      | some ti => if 0 < ti.size ∧ len * ti.size ≤ 16777216 then
          (match abuild (fun i => some (i * ti.size, ti.size)) (List.replicate (len * ti.size) .any) (parts.toList.map fun x => (x.1, ev Γ A x.2)) with
          | some cs => if PV.plainL cs = true then some (.vec (chunk ti.size len cs) true, H) else none
          | none => none) else none
      | none => none
    | _ => none
  | .indexAddr t x i => match elOf P t, ev Γ A x, ev Γ A i with
    | some (sz, _), .vec es _, .int _ n => match es[n.toNat]? with
      | some e => if 0 ≤ n ∧ e.length = sz then some (.cptr e, H) else none
      | none => none
    | none, q, .int _ n => match arOf P t with
      | some (m, sz) => if 0 ≤ n ∧ n < (m : Int) then (match shift q (n.toNat * sz) with
        | some p => some (p, H)
        | none => none) else none
      | none => none
    | _, _, _ => none
  | .index t x i => match P.underlying t, ev Γ A x, ev Γ A i with
    | some .string, .str s, .int _ n => match s[n.toNat]? with
      | some c => if 0 ≤ n then some (.int .u8 c.toNat, H) else none
      | none => none
    | _, _, _ => none
  | .call c => match c with
    | { callee := .builtin .len, args := ⟨[x]⟩, argTypes := ⟨[t]⟩ } => match P.underlying t, ev Γ A x with
      | some .string, .str s => some (.int .i64 s.length, H)
      | some (.slice _), .vec es _ => some (.int .i64 es.length, H)
      | some (.slice _), .row _ _ k _ => some (.int .i64 k, H)
      | _, _ => none
    | _ => none
  | _ => none
section
variable {P : Program} {Γ : Nat → PV} {o : Oper} {A : List (Nat × PV)} {H : List Blk} {K : PV → List Blk → Prop}
theorem boxAt_spec {b : Nat} {cs : List PV} (h : boxAt H b = some cs) : H[b]? = some (.box cs) := by
  unfold boxAt at h
  split at h
  · cases h; assumption
  · cases h
theorem step1_sound {p : PV} {H' : List Blk} (h : step1 P Γ A H o.op = some (p, H')) (hk : K p H') : OStep P Γ o A H K := by
  unfold step1 at h
  split at h
  · rename_i x ho; cases h; exact os_move ho hk
  · rename_i x ho; cases h; exact os_assign ho hk
  · rename_i c x y ho
    split at h
    · rename_i b hb; cases h; exact os_pick ho hb hk
    · cases h
  · rename_i t ho
    split at h
    · rename_i ti ht; cases h; exact os_alloc ho ht hk
    · cases h
  · rename_i t x ho
    split at h
    · rename_i hx; cases h; exact os_box ho hx hk
    · cases h
  · rename_i t x ho
    split at h
    · rename_i cs ti hr ht
      refine os_load (p := p) ho ht hr ?_ ?_
      · split at h
        · rename_i hag
          rw [if_pos hag]
          split at h
          · rename_i hle; cases h; exact ⟨hle, rfl⟩
          · cases h
        · rename_i hag
          rw [if_neg hag]
          split at h
          · rename_i q hq; cases h; exact hq
          · cases h
      · have : H' = H := by
          split at h
          · split at h
            · cases h; rfl
            · cases h
          · split at h
            · cases h; rfl
            · cases h
        subst this; exact hk
    · cases h
  · rename_i t x y ho
    split at h
    · rename_i b q ti hx ht
      split at h
      · rename_i cs hb
        split at h
        · rename_i hc; cases h; exact os_store ho ht hx (boxAt_spec hb) hc.1 hc.2.1 hc.2.2 hk
        · cases h
      · cases h
    · cases h
  · rename_i s x f ho
    split at h
    · rename_i off sz ag hf
      split at h
      · rename_i q hq; cases h; exact os_fieldAddr ho hf hq hk
      · cases h
    · cases h
  · rename_i s x f ho
    split at h
    · rename_i off size ag cs hf hx
      refine os_field (p := p) ho hf hx ?_ ?_
      · split at h
        · rename_i hag
          rw [if_pos hag]
          split at h
          · rename_i hle; cases h; exact ⟨hle, rfl⟩
          · cases h
        · rename_i hag
          rw [if_neg hag]
          split at h
          · rename_i q hq; cases h; exact hq
          · cases h
      · have : H' = H := by
          split at h
          · split at h
            · cases h; rfl
            · cases h
          · split at h
            · cases h; rfl
            · cases h
        subst this; exact hk
    · cases h
  · rename_i op t x y ty ho
    split at h
    · rename_i b c hx hy
      split at h
      · rename_i q ht hq; cases h; exact os_eqb ho ht hx hy hq hk
      · cases h
    · rename_i xs ys hx hy
      split at h
      · rename_i l hl
        split at h
        · rename_i b hb
          split at h
          · rename_i r hr; cases h; exact os_eqAgg ho hl hx hy hb hr hk
          · cases h
        · cases h
      · cases h
    · split at h
      · rename_i r hr; cases h; exact os_bin ho hr hk
      · split at h
        · rename_i r hr
          cases h
          unfold nilStep at hr
          split at hr
          · rename_i c
            split at hr
            · rename_i d hd
              split at hr
              · rename_i hn
                split at hr
                · rename_i b hb; exact os_nil ho hd (nilOf_spec hn) hb hr hk
                · cases hr
              · cases hr
            · cases hr
          · cases hr
        · cases h
  · rename_i t x ho
    split at h
    · rename_i b hb; cases h; exact os_not ho hb hk
    · cases h
  · rename_i t x ho
    split at h
    · rename_i k n hb; cases h; exact os_neg ho hb hk
    · cases h
  · rename_i s t x ho
    split at h
    · rename_i d k' k n hs ht hx; cases h; exact os_conv ho hs ht hx hk
    · rename_i d u hs ht hx; cases h; exact os_convStr ho hs ht hx hk
    · cases h
  · rename_i x ho
    split at h
    · rename_i b q hx; cases h; exact os_nilCheck ho (.inl ⟨_, _, hx⟩) (by rw [hx]; exact hk)
    · rename_i cs hx; cases h; exact os_nilCheck ho (.inr (.inl ⟨_, hx⟩)) (by rw [hx]; exact hk)
    · rename_i b q l hx; cases h; exact os_nilCheck ho (.inr (.inr ⟨_, _, _, hx⟩)) (by rw [hx]; exact hk)
    · cases h
  · rename_i x i ho
    split at h
    · rename_i ps hx
      split at h
      · rename_i q hq; cases h; exact os_extract ho hx hq hk
      · cases h
    · cases h
  · rename_i fn fs cs ho; cases h; exact os_func ho hk
  · rename_i t x ho
    split at h
    · cases h
    · rename_i d hne ht; cases h; exact os_iface ho ht (hne) hk
    · cases h
  · rename_i t parts ho
    split at h
    · rename_i ti pl ht hp
      split at h
      · rename_i cs hb; cases h; exact os_build ho ht hp hb hk
      · cases h
    · cases h
  · rename_i t len parts ho
    split at h
    · rename_i e ht
      split at h
      · rename_i ti he
        split at h
        · rename_i hc
          split at h
          · rename_i cs hb
            split at h
            · rename_i hp; cases h; exact os_bsliceV ho ht he hc.1 hc.2 hb hp hk
            · cases h
          · cases h
        · cases h
      · cases h
    · cases h
  · rename_i t x i ho
    split at h
    · rename_i sz by' es f k n ht hx hi
      split at h
      · rename_i e he
        split at h
        · rename_i hc; cases h; exact os_index_vec ho ht hx hi hc.1 he hc.2 hk
        · cases h
      · cases h
    · rename_i k n ht hi
      split at h
      · rename_i m sz ha
        split at h
        · rename_i hc
          split at h
          · rename_i q hq; cases h; exact os_index_arr ho ha hi hc.1 hc.2 hq hk
          · cases h
        · cases h
      · cases h
    · cases h
  · rename_i t x i ho
    split at h
    · rename_i s k n ht hx hi
      split at h
      · rename_i c hc
        split at h
        · rename_i h0; cases h; exact os_index_str ho ht hx hi h0 hc hk
        · cases h
      · cases h
    · cases h
  · rename_i c ho
    split at h
    · rename_i x t
      split at h
      · rename_i s ht hx; cases h; exact os_len (ty := 0) ho ht (.inl ⟨rfl, s, hx⟩) (by rw [hx]; rfl) hk
      · rename_i e es f ht hx; cases h; exact os_len (ty := 0) ho ht (.inr ⟨⟨_, rfl⟩, fun s e => by rw [hx] at e; cases e⟩) (by rw [hx]; rfl) hk
      · rename_i e b q k sz ht hx; cases h; exact os_len (ty := 0) ho ht (.inr ⟨⟨_, rfl⟩, fun s e => by rw [hx] at e; cases e⟩) (by rw [hx]; rfl) hk
      · cases h
    · cases h
  · cases h
def arun (P : Program) (Γ : Nat → PV) (ops : Array Oper) : List Oper → List (Nat × PV) → List Blk → Option (List (Nat × PV) × List Blk)
  | [], A, H => some (A, H)
  | o :: rest, A, H =>
    match o.guard with
    | none => match step1 P Γ A H o.op with
      | some (p, H') => arun P Γ ops rest (aput A o.dst p) H'
      | none => none
    | some (j, want) => match (ops[j]?).bind (·.dst) with
      | some d => match alook A d with
        | .bool b => if b = want then (match step1 P Γ A H o.op with
            | some (p, H') => arun P Γ ops rest (aput A o.dst p) H'
            | none => none) else arun P Γ ops rest (aput A o.dst (.tup [])) H
        | .tup [] => arun P Γ ops rest (aput A o.dst (.tup [])) H
        | _ => none
      | none => none
theorem aops_run {ops : Array Oper} {Q : List (Nat × PV) → List Blk → Prop} (k : Nat) : ∀ {rest : List Oper} {A : List (Nat × PV)} {H : List Blk} {A' : List (Nat × PV)} {H' : List Blk},
    arun P Γ ops (rest.take k) A H = some (A', H') → AOps P Γ ops Q (rest.drop k) A' H' → AOps P Γ ops Q rest A H := by
  induction k with
  | zero => intro rest A H A' H' h hk; simp only [List.take_zero, arun, Option.some.injEq, Prod.mk.injEq] at h; obtain ⟨rfl, rfl⟩ := h; exact hk
  | succ k ih =>
    intro rest A H A' H' h hk
    cases rest with
    | nil => simp only [List.take_nil, arun, Option.some.injEq, Prod.mk.injEq] at h; obtain ⟨rfl, rfl⟩ := h; exact hk
    | cons o rest =>
      simp only [List.take_succ_cons, arun] at h
      simp only [List.drop_succ_cons] at hk
      simp only [AOps]
      split at h
      · rename_i hg
        try rw [hg]
        split at h
        · rename_i p H1 hs; exact step1_sound hs (ih h hk)
        · cases h
      · rename_i j want hg
        try rw [hg]
        split at h
        · rename_i d hd
          split at h
          · rename_i b hb
            refine ⟨d, hd, .inl ⟨b, hb, ?_⟩⟩
            split at h
            · rename_i hw
              rw [if_pos hw]
              split at h
              · rename_i p H1 hs; exact step1_sound hs (ih h hk)
              · cases h
            · rename_i hw
              rw [if_neg hw]
              exact ih h hk
          · rename_i hb
            exact ⟨d, hd, .inr ⟨hb, ih h hk⟩⟩
          · cases h
        · cases h
theorem aops_one {ops : Array Oper} {Q : List (Nat × PV) → List Blk → Prop} {rest : List Oper} (hg : o.guard = none) (h : OStep P Γ o A H (fun p H' => AOps P Γ ops Q rest (aput A o.dst p) H')) : AOps P Γ ops Q (o :: rest) A H := by
  simp only [AOps, hg]; exact h
theorem aops_if {ops : Array Oper} {Q : List (Nat × PV) → List Blk → Prop} {rest : List Oper} {j d : Nat} {b : Bool} (hg : o.guard = some (j, b)) (hd : (ops[j]?).bind (·.dst) = some d) (hb : alook A d = .bool b)
    (h : OStep P Γ o A H (fun p H' => AOps P Γ ops Q rest (aput A o.dst p) H')) : AOps P Γ ops Q (o :: rest) A H := by
  simp only [AOps, hg]; exact ⟨d, hd, .inl ⟨b, hb, by rw [if_pos rfl]; exact h⟩⟩
theorem awp_run {N id : Nat} {ro : Option Nat} {ops : Array Oper} {D : List Nat} {Q : Post} {A' : List (Nat × PV)} {H' : List Blk} (hok : dstOk N ops = true) (h : arun P Γ ops ops.toList A H = some (A', H')) (hk : Q .normal A' H' D) :
    AWP P Γ N ro (.region id ops false) A H D Q :=
  awp_region hok (aops_run ops.size (by rw [List.take_of_length_le (by simp)]; exact h) (by rw [List.drop_of_length_le (by simp)]; exact hk))
def akeep (l : List Nat) (A : List (Nat × PV)) : List (Nat × PV) := l.map fun t => (t, alook A t)
theorem akeep_look (l : List Nat) (A : List (Nat × PV)) (t : Nat) : alook (akeep l A) t = alook A t ∨ alook (akeep l A) t = .any := by
  induction l with
  | nil => exact .inr rfl
  | cons k l ih =>
    simp only [akeep, List.map_cons, alook]
    by_cases h : t = k
    · rw [if_pos h, h]; exact .inl rfl
    · rw [if_neg h]; exact ih
theorem awp_keep {N : Nat} {ro : Option Nat} {c : Code} {D : List Nat} {Q : Post} {A' : List (Nat × PV)} (l : List Nat) (he : akeep l A = A') (h : AWP P Γ N ro c A' H D Q) : AWP P Γ N ro c A H D Q :=
  awp_less (fun t => he ▸ akeep_look l A t) h
end
end Go.Proofs.YtddnigahjahkbaaGreatDoor.Fw
