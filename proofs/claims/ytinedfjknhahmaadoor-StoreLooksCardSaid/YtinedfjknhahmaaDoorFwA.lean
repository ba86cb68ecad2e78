/- The framework, first part: values without addresses, what a value of the machine stands for, what is kept of a world. -/
import Derived.WalkKit
import Derived.RangeFuncLeaves
namespace Go.Proofs.YtinedfjknhahmaaDoor.Fw
set_option linter.unusedVariables false
set_option linter.unusedSimpArgs false
open Go.RowKit

/-- A value without addresses: immutable rows by what stands in them, variables by a number. -/
inductive PV where
  | any
  | bool (b : Bool)
  | int (k : IntKind) (n : Int)
  | str (s : List UInt8)
  | nilp | nilm | nilf | nili
  | cptr (cs : List PV)
  | ptr (b o : Nat)
  | eptr (b o len : Nat)
  | vec (es : List (List PV)) (full : Bool)
  | row (b o k sz : Nat)
  | map (b : Nat)
  | yld (b : Nat)
  | func (fn : Fn) (first cap : List PV)
  | iface (t : TypeId) (v : PV)
  | agg (cs : List PV)
  | tup (vs : List PV)
  deriving Inhabited

/-- What stands in a variable, a row that grows, a map; a loop's record. -/
inductive Blk where
  | box (cs : List PV)
  | row (sz : Nat) (cs : List PV)
  | map (es : List (PV × PV))
  | loop (l : Loop) (cs : List PV)
  | dfr
  | dead

structure Info where
  blk : Nat
  len : Nat
  size : Nat
  sub : Nat
  isRow : Bool

/-- What is known beside the world: memory that no one turns any more; where each numbered block lies. -/
structure Ghost where
  M : Addr → Option Value
  info : Nat → Info

/-- A value of the machine stands for a value without addresses (numbers of blocks below n). -/
inductive Rep (G : Ghost) : Nat → PV → Value → Prop
  | any (n : Nat) (v : Value) : Rep G n .any v
  | bool (n : Nat) (b : Bool) : Rep G n (.bool b) (.bool b)
  | int (n : Nat) (k : IntKind) (i : Int) : Rep G n (.int k i) (.int k i)
  | str (n : Nat) (s : List UInt8) (hn : s.length ≤ 9223372036854775807) : Rep G n (.str s) (.string ⟨s.toArray⟩)
  | nilp (n : Nat) : Rep G n .nilp (.pointer none)
  | nilm (n : Nat) : Rep G n .nilm (.map none)
  | nilf (n : Nat) : Rep G n .nilf .nilFunc
  | nili (n : Nat) : Rep G n .nili .nilIface
  | cptr (n : Nat) (cs : List PV) (b o : Nat) (vs : Nat → Value) (h1 : ∀ (i : Nat) c, cs[i]? = some c → G.M ⟨b, o + i, none⟩ = some (vs i))
      (h2 : ∀ (i : Nat) c, cs[i]? = some c → Rep G 0 c (vs i)) (h3 : ∀ (i : Nat) c, cs[i]? = some c → (vs i).oneCell' = true) : Rep G n (.cptr cs) (.pointer (some ⟨b, o, none⟩))
  | vec0 (n : Nat) (f : Bool) (a : Option Addr) : Rep G n (.vec [] f) (.slice a 0 0)
  | vec (n : Nat) (es : List (List PV)) (f : Bool) (b o sz cap : Nat) (vs : Nat → Value) (hn : es.length ≤ 9223372036854775807) (hc : es.length ≤ cap) (hf : f = true → cap = es.length)
      (hs : ∀ e, e ∈ es → e.length = sz)
      (h1 : ∀ (i j : Nat) e c, es[i]? = some e → e[j]? = some c → G.M ⟨b, o + (i * sz + j), none⟩ = some (vs (i * sz + j)))
      (h2 : ∀ (i j : Nat) e c, es[i]? = some e → e[j]? = some c → Rep G 0 c (vs (i * sz + j)))
      (h3 : ∀ (i j : Nat) e c, es[i]? = some e → e[j]? = some c → (vs (i * sz + j)).oneCell' = true) : Rep G n (.vec es f) (.slice (some ⟨b, o, none⟩) es.length cap)
  | ptr (n b o : Nat) (hb : b < n) (hr : (G.info b).isRow = false) : Rep G n (.ptr b o) (.pointer (some ⟨(G.info b).blk, o, none⟩))
  | eptr (n b o len : Nat) (a : Addr) (hb : b < n) (hr : (G.info b).isRow = true) (hl : len ≤ (G.info b).len)
      (ha : (G.info b).len = len → (G.info b).sub ≤ o ∧ a = ⟨(G.info b).blk, o - (G.info b).sub, none⟩) : Rep G n (.eptr b o len) (.pointer (some a))
  | row (n b o k sz : Nat) (a : Option Addr) (cap : Nat) (hn : k ≤ 9223372036854775807) (hb : b < n) (hr : (G.info b).isRow = true) (hl : o + k * sz ≤ (G.info b).len)
      (ha : (G.info b).len = o + k * sz → k ≤ cap ∧ (((G.info b).sub ≤ o ∧ a = some ⟨(G.info b).blk, o - (G.info b).sub, none⟩ ∧ (o - (G.info b).sub) + cap * sz = (G.info b).size) ∨ (k = 0 ∧ cap = 0))) : Rep G n (.row b o k sz) (.slice a k cap)
  | map (n b : Nat) (hb : b < n) (hr : (G.info b).isRow = false) : Rep G n (.map b) (.map (some (G.info b).blk))
  | yld (n b : Nat) (hb : b < n) (hr : (G.info b).isRow = false) : Rep G n (.yld b) (.func (.yield (G.info b).blk) #[] #[])
  | func (n : Nat) (fn : Fn) (fs cs : List PV) (fs' cs' : Array Value) (h1 : fs.length = fs'.size) (h2 : cs.length = cs'.size)
      (h3 : ∀ (i : Nat) c v, fs[i]? = some c → fs'[i]? = some v → Rep G n c v) (h4 : ∀ (i : Nat) c v, cs[i]? = some c → cs'[i]? = some v → Rep G n c v) : Rep G n (.func fn fs cs) (.func fn fs' cs')
  | iface (n : Nat) (t : TypeId) (p : PV) (v : Value) (h : Rep G n p v) : Rep G n (.iface t p) (.iface t v)
  | agg (n : Nat) (cs : List PV) (vs : Array Value) (h1 : cs.length = vs.size) (h2 : ∀ (i : Nat) c v, cs[i]? = some c → vs[i]? = some v → Rep G n c v)
      (h3 : ∀ (i : Nat) v, vs[i]? = some v → v.oneCell' = true) : Rep G n (.agg cs) (.agg vs)
  | tup (n : Nat) (cs : List PV) (vs : Array Value) (h1 : cs.length = vs.size) (h2 : ∀ (i : Nat) c v, cs[i]? = some c → vs[i]? = some v → Rep G n c v) : Rep G n (.tup cs) (.tuple vs)

/-- What was known stays known: memory that is not turned grows; a block's place is as it was, or its row has grown. -/
structure Evol (G : Ghost) (n : Nat) (G' : Ghost) : Prop where
  mem : ∀ a v, G.M a = some v → G'.M a = some v
  info : ∀ b, b < n → G'.info b = G.info b ∨ ((G.info b).isRow = true ∧ (G'.info b).isRow = true ∧ (G.info b).len < (G'.info b).len)

theorem Evol.refl (G : Ghost) (n : Nat) : Evol G n G := ⟨fun _ _ h => h, fun _ _ => .inl rfl⟩
theorem Evol.less {G G' : Ghost} {n m : Nat} (h : Evol G n G') (hm : m ≤ n) : Evol G m G' := ⟨h.mem, fun b hb => h.info b (Nat.lt_of_lt_of_le hb hm)⟩
theorem Evol.trans {G G' G'' : Ghost} {n m : Nat} (h : Evol G n G') (h' : Evol G' m G'') (hm : n ≤ m) : Evol G n G'' := by
  refine ⟨fun a v ha => h'.mem a v (h.mem a v ha), fun b hb => ?_⟩
  rcases h.info b hb with e | ⟨r, r', l⟩
  · rcases h'.info b (by omega) with e' | ⟨s, s', l'⟩
    · exact .inl (e'.trans e)
    · exact .inr ⟨e ▸ s, s', e ▸ l'⟩
  · rcases h'.info b (by omega) with e' | ⟨s, s', l'⟩
    · exact .inr ⟨r, e' ▸ r', e' ▸ l⟩
    · exact .inr ⟨r, s', Nat.lt_trans l l'⟩

theorem Rep.mono {G G' : Ghost} {n : Nat} {p : PV} {v : Value} (h : Rep G n p v) : ∀ m, Evol G n G' → n ≤ m → Rep G' m p v := by
  induction h with
  | any n v => exact fun m _ _ => .any m v
  | bool n b => exact fun m _ _ => .bool m b
  | int n k i => exact fun m _ _ => .int m k i
  | str n s hn => exact fun m _ _ => .str m s hn
  | nilp n => exact fun m _ _ => .nilp m
  | nilm n => exact fun m _ _ => .nilm m
  | nilf n => exact fun m _ _ => .nilf m
  | nili n => exact fun m _ _ => .nili m
  | cptr n cs b o vs h1 h2 h3 ih => exact fun m he hm => .cptr m cs b o vs (fun i c hc => he.mem _ _ (h1 i c hc)) (fun i c hc => ih i c hc 0 (he.less (Nat.zero_le _)) (Nat.le_refl _)) h3
  | vec0 n f a => exact fun m _ _ => .vec0 m f a
  | vec n es f b o sz cap vs hn hc hf hs h1 h2 h3 ih =>
    exact fun m he hm => .vec m es f b o sz cap vs hn hc hf hs (fun i j e c hi hj => he.mem _ _ (h1 i j e c hi hj)) (fun i j e c hi hj => ih i j e c hi hj 0 (he.less (Nat.zero_le _)) (Nat.le_refl _)) h3
  | ptr n b o hb hr =>
    intro m he hm
    rcases he.info b hb with e | ⟨r, _, _⟩
    · rw [← e]; exact .ptr m b o (by omega) (by rw [e]; exact hr)
    · rw [hr] at r; cases r
  | eptr n b o len a hb hr hl ha =>
    intro m he hm
    rcases he.info b hb with e | ⟨r, r', l⟩
    · exact .eptr m b o len a (by omega) (by rw [e]; exact hr) (by rw [e]; exact hl) (by rw [e]; exact ha)
    · exact .eptr m b o len a (by omega) r' (by omega) (fun h => by omega)
  | row n b o k sz a cap hn hb hr hl ha =>
    intro m he hm
    rcases he.info b hb with e | ⟨r, r', l⟩
    · exact .row m b o k sz a cap hn (by omega) (by rw [e]; exact hr) (by rw [e]; exact hl) (by rw [e]; exact ha)
    · exact .row m b o k sz a cap hn (by omega) r' (by omega) (fun h => by omega)
  | map n b hb hr =>
    intro m he hm
    rcases he.info b hb with e | ⟨r, _, _⟩
    · rw [← e]; exact .map m b (by omega) (by rw [e]; exact hr)
    · rw [hr] at r; cases r
  | yld n b hb hr =>
    intro m he hm
    rcases he.info b hb with e | ⟨r, _, _⟩
    · rw [← e]; exact .yld m b (by omega) (by rw [e]; exact hr)
    · rw [hr] at r; cases r
  | func n fn fs cs fs' cs' h1 h2 h3 h4 i3 i4 => exact fun m he hm => .func m fn fs cs fs' cs' h1 h2 (fun i c v a b => i3 i c v a b m he hm) (fun i c v a b => i4 i c v a b m he hm)
  | iface n t p v h ih => exact fun m he hm => .iface m t p v (ih m he hm)
  | agg n cs vs h1 h2 h3 ih => exact fun m he hm => .agg m cs vs h1 (fun i c v a b => ih i c v a b m he hm) h3
  | tup n cs vs h1 h2 ih => exact fun m he hm => .tup m cs vs h1 (fun i c v a b => ih i c v a b m he hm)

-- A value whose numbers of blocks are below m (what stands in an immutable row names none).
mutual
def PV.bd (m : Nat) : PV → Bool
  | .ptr b _ | .eptr b _ _ | .row b _ _ _ | .map b | .yld b => decide (b < m)
  | .func _ fs cs => PV.bdL m fs && PV.bdL m cs
  | .iface _ v => v.bd m
  | .agg cs => PV.bdL m cs
  | .tup vs => PV.bdL m vs
  | _ => true
def PV.bdL (m : Nat) : List PV → Bool
  | [] => true
  | p :: ps => p.bd m && PV.bdL m ps
end
/-- A value that names no block. -/
abbrev PV.plain (p : PV) : Bool := p.bd 0
abbrev PV.plainL (ps : List PV) : Bool := PV.bdL 0 ps

theorem PV.bdL_iff {m : Nat} {ps : List PV} : PV.bdL m ps = true ↔ ∀ p ∈ ps, p.bd m = true := by
  induction ps with
  | nil => simp [PV.bdL]
  | cons p ps ih => simp [PV.bdL, ih]

theorem PV.bdL_at {m : Nat} {ps : List PV} {i : Nat} {p : PV} (h : PV.bdL m ps = true) (hi : ps[i]? = some p) : p.bd m = true :=
  PV.bdL_iff.1 h p (List.mem_of_getElem? hi)

theorem PV.bdL_append {m : Nat} {ps qs : List PV} : PV.bdL m (ps ++ qs) = (PV.bdL m ps && PV.bdL m qs) := by
  induction ps with
  | nil => simp [PV.bdL]
  | cons p ps ih => simp [PV.bdL, ih, Bool.and_assoc]

mutual
theorem PV.bd_mono {m n : Nat} (h : m ≤ n) : ∀ p : PV, p.bd m = true → p.bd n = true
  | .ptr b _, hp => by simp [PV.bd] at hp ⊢; omega
  | .eptr b _ _, hp => by simp [PV.bd] at hp ⊢; omega
  | .row b _ _ _, hp => by simp [PV.bd] at hp ⊢; omega
  | .map b, hp => by simp [PV.bd] at hp ⊢; omega
  | .yld b, hp => by simp [PV.bd] at hp ⊢; omega
  | .func _ fs cs, hp => by simp [PV.bd] at hp ⊢; exact ⟨PV.bdL_mono h fs hp.1, PV.bdL_mono h cs hp.2⟩
  | .iface _ v, hp => by simp [PV.bd] at hp ⊢; exact PV.bd_mono h v hp
  | .agg cs, hp => by simp [PV.bd] at hp ⊢; exact PV.bdL_mono h cs hp
  | .tup vs, hp => by simp [PV.bd] at hp ⊢; exact PV.bdL_mono h vs hp
  | .any, _ | .bool _, _ | .int _ _, _ | .str _, _ | .nilp, _ | .nilm, _ | .nilf, _ | .nili, _ | .cptr _, _ | .vec _ _, _ => by simp [PV.bd]
theorem PV.bdL_mono {m n : Nat} (h : m ≤ n) : ∀ ps : List PV, PV.bdL m ps = true → PV.bdL n ps = true
  | [], _ => rfl
  | p :: ps, hp => by simp [PV.bdL] at hp ⊢; exact ⟨PV.bd_mono h p hp.1, PV.bdL_mono h ps hp.2⟩
end

/-- What a value stands for holds wherever its numbers of blocks lie. -/
theorem Rep.cut {G : Ghost} {n : Nat} {p : PV} {v : Value} (h : Rep G n p v) : ∀ m, p.bd m = true → Rep G m p v := by
  induction h with
  | any n v => exact fun m _ => .any m v
  | bool n b => exact fun m _ => .bool m b
  | int n k i => exact fun m _ => .int m k i
  | str n s hn => exact fun m _ => .str m s hn
  | nilp n => exact fun m _ => .nilp m
  | nilm n => exact fun m _ => .nilm m
  | nilf n => exact fun m _ => .nilf m
  | nili n => exact fun m _ => .nili m
  | cptr n cs b o vs h1 h2 h3 _ => exact fun m _ => .cptr m cs b o vs h1 h2 h3
  | vec0 n f a => exact fun m _ => .vec0 m f a
  | vec n es f b o sz cap vs hn hc hf hs h1 h2 h3 _ => exact fun m _ => .vec m es f b o sz cap vs hn hc hf hs h1 h2 h3
  | ptr n b o hb hr => exact fun m h => .ptr m b o (by simpa [PV.bd] using h) hr
  | eptr n b o len a hb hr hl ha => exact fun m h => .eptr m b o len a (by simpa [PV.bd] using h) hr hl ha
  | row n b o k sz a cap hn hb hr hl ha => exact fun m h => .row m b o k sz a cap hn (by simpa [PV.bd] using h) hr hl ha
  | map n b hb hr => exact fun m h => .map m b (by simpa [PV.bd] using h) hr
  | yld n b hb hr => exact fun m h => .yld m b (by simpa [PV.bd] using h) hr
  | func n fn fs cs fs' cs' h1 h2 h3 h4 i3 i4 =>
    intro m hp
    simp [PV.bd] at hp
    exact .func m fn fs cs fs' cs' h1 h2 (fun i c v a b => i3 i c v a b m (PV.bdL_at hp.1 a)) (fun i c v a b => i4 i c v a b m (PV.bdL_at hp.2 a))
  | iface n t p v h ih => exact fun m hp => .iface m t p v (ih m (by simpa [PV.bd] using hp))
  | agg n cs vs h1 h2 h3 ih => exact fun m hp => .agg m cs vs h1 (fun i c v a b => ih i c v a b m (PV.bdL_at (by simpa [PV.bd] using hp) a)) h3
  | tup n cs vs h1 h2 ih => exact fun m hp => .tup m cs vs h1 (fun i c v a b => ih i c v a b m (PV.bdL_at (by simpa [PV.bd] using hp) a))

theorem Rep.pure {G : Ghost} {n : Nat} {p : PV} {v : Value} (h : Rep G n p v) (hp : p.plain = true) (m : Nat) : Rep G m p v :=
  ((h.cut 0 hp).mono m (Evol.refl G 0) (Nat.zero_le _))

theorem bdL_of {n : Nat} {ps : List PV} {vs : Array Value} (hl : ps.length = vs.size) (h : ∀ (i : Nat) c v, ps[i]? = some c → vs[i]? = some v → c.bd n = true) : PV.bdL n ps = true := by
  rw [PV.bdL_iff]
  intro p hp
  obtain ⟨i, hi, rfl⟩ := List.mem_iff_getElem.1 hp
  exact h i _ vs[i] (List.getElem?_eq_getElem hi) (Array.getElem?_eq_getElem (by omega))

/-- Whatever stands for a value names blocks below the bound alone. -/
theorem Rep.bound {G : Ghost} {n : Nat} {p : PV} {v : Value} (h : Rep G n p v) : p.bd n = true := by
  induction h with
  | ptr n b o hb hr => simpa [PV.bd] using hb
  | eptr n b o len a hb hr hl ha => simpa [PV.bd] using hb
  | row n b o k sz a cap hn hb hr hl ha => simpa [PV.bd] using hb
  | map n b hb hr => simpa [PV.bd] using hb
  | yld n b hb hr => simpa [PV.bd] using hb
  | func n fn fs cs fs' cs' h1 h2 h3 h4 i3 i4 => simp [PV.bd, bdL_of h1 i3, bdL_of h2 i4]
  | iface n t p v h ih => simpa [PV.bd] using ih
  | agg n cs vs h1 h2 h3 ih => simp [PV.bd, bdL_of h1 ih]
  | tup n cs vs h1 h2 ih => simp [PV.bd, bdL_of h1 ih]
  | _ => simp [PV.bd]

/-- Value by value. -/
def Reps (G : Ghost) (n : Nat) (ps : List PV) (vs : List Value) : Prop := ps.length = vs.length ∧ ∀ (i : Nat) p v, ps[i]? = some p → vs[i]? = some v → Rep G n p v

theorem Reps.nil (G : Ghost) (n : Nat) : Reps G n [] [] := ⟨rfl, fun i p v h => by simp at h⟩
theorem Reps.cons {G : Ghost} {n : Nat} {p : PV} {v : Value} {ps : List PV} {vs : List Value} (h : Rep G n p v) (hs : Reps G n ps vs) : Reps G n (p :: ps) (v :: vs) :=
  ⟨by simp [hs.1], fun i q u hq hu => by
    cases i with
    | zero => simp at hq hu; subst hq; subst hu; exact h
    | succ i => simp at hq hu; exact hs.2 i q u hq hu⟩
theorem Reps.cons_inv {G : Ghost} {n : Nat} {p : PV} {ps : List PV} {us : List Value} (hs : Reps G n (p :: ps) us) : ∃ v vs, us = v :: vs ∧ Rep G n p v ∧ Reps G n ps vs := by
  cases us with
  | nil => exact absurd hs.1 (by simp)
  | cons v vs => exact ⟨v, vs, rfl, hs.2 0 p v rfl rfl, by have := hs.1; simpa using this, fun i q u hq hu => hs.2 (i + 1) q u (by simpa using hq) (by simpa using hu)⟩
theorem Reps.mono {G G' : Ghost} {n m : Nat} {ps : List PV} {vs : List Value} (h : Reps G n ps vs) (he : Evol G n G') (hm : n ≤ m) : Reps G' m ps vs :=
  ⟨h.1, fun i p v hp hv => (h.2 i p v hp hv).mono m he hm⟩
theorem Reps.cut {G : Ghost} {n : Nat} {ps : List PV} {vs : List Value} (h : Reps G n ps vs) {m : Nat} (hp : PV.bdL m ps = true) : Reps G m ps vs :=
  ⟨h.1, fun i p v hi hv => (h.2 i p v hi hv).cut m (PV.bdL_at hp hi)⟩
theorem Reps.bound {G : Ghost} {n : Nat} {ps : List PV} {vs : List Value} (h : Reps G n ps vs) : PV.bdL n ps = true := by
  rw [PV.bdL_iff]
  intro p hp
  obtain ⟨i, hi, rfl⟩ := List.mem_iff_getElem.1 hp
  exact (h.2 i _ (vs[i]'(by have := h.1; omega)) (List.getElem?_eq_getElem hi) (List.getElem?_eq_getElem (by have := h.1; omega))).bound
theorem Reps.append {G : Ghost} {n : Nat} {ps qs : List PV} {vs us : List Value} (h : Reps G n ps vs) (k : Reps G n qs us) : Reps G n (ps ++ qs) (vs ++ us) := by
  refine ⟨by simp [h.1, k.1], fun i p v hp hv => ?_⟩
  by_cases hi : i < ps.length
  · rw [List.getElem?_append_left hi] at hp
    rw [List.getElem?_append_left (by rw [← h.1]; exact hi)] at hv
    exact h.2 i p v hp hv
  · rw [List.getElem?_append_right (by omega)] at hp
    rw [List.getElem?_append_right (by rw [← h.1]; omega)] at hv
    exact k.2 _ p v hp (by rw [h.1]; exact hv)

/-- The cells of a value. -/
def PV.cells : PV → List PV
  | .agg cs => cs
  | p => [p]

/-- One cell for sure. -/
def PV.one : PV → Bool
  | .agg _ | .tup _ | .any => false
  | _ => true

theorem Rep.oneCell {G : Ghost} {n : Nat} {p : PV} {v : Value} (h : Rep G n p v) (hp : p.one = true) : v.oneCell' = true := by
  cases h <;> simp_all [PV.one, Value.oneCell']

/-- The value's cells stand for the cells. -/
theorem Rep.cells {G : Ghost} {n : Nat} {p : PV} {v : Value} (h : Rep G n p v) (hp : p.one = true ∨ ∃ cs, p = .agg cs) :
    Reps G n p.cells v.cells.toList ∧ ∀ (i : Nat) u, v.cells[i]? = some u → u.oneCell' = true := by
  rcases hp with hp | ⟨cs, rfl⟩
  · have ho := h.oneCell hp
    have hc : v.cells = #[v] := by cases v <;> simp_all [Value.cells, Value.oneCell']
    have hq : p.cells = [p] := by cases p <;> simp_all [PV.cells, PV.one]
    rw [hc, hq]
    refine ⟨.cons h (.nil _ _), fun i u hu => ?_⟩
    cases i with
    | zero => simp at hu; subst hu; exact ho
    | succ i => simp at hu
  · cases h with
    | agg _ _ vs h1 h2 h3 => exact ⟨⟨by simpa [PV.cells, Value.cells] using h1, fun i c v hc hv => h2 i c v hc (by simpa [Value.cells] using hv)⟩, h3⟩

/-- Where a block lies, and what stands in it. -/
def BlkOk (G : Ghost) (n : Nat) (w : World) (i : Info) : Blk → Prop
  | .box cs => i.isRow = false ∧ ∃ C e, w.heap[i.blk]? = some (.cells C e (0, 0)) ∧ Reps G n cs C.toList ∧ ∀ (j : Nat) u, C[j]? = some u → u.oneCell' = true
  | .row sz cs => i.isRow = true ∧ i.len = cs.length ∧ 0 < sz ∧ i.sub ≤ cs.length ∧ PV.bdL n cs = true ∧ ((i.size = 0 ∧ cs.length = i.sub) ∨
      (0 < i.size ∧ ∃ C e, w.heap[i.blk]? = some (.cells C e (0, 0)) ∧ C.size = i.size ∧ cs.length - i.sub ≤ C.size ∧ ∀ (j : Nat) c u, cs[i.sub + j]? = some c → C[j]? = some u → Rep G n c u ∧ u.oneCell' = true))
  | .map es => i.isRow = false ∧ ∃ E clock, w.heap[i.blk]? = some (.map E clock) ∧ E.size = es.length ∧ (∀ (j : Nat) p q x, es[j]? = some (p, q) → E[j]? = some x → Rep G n p x.key ∧ Rep G n q x.val) ∧
      (∀ (j : Nat) x, E[j]? = some x → x.born < clock) ∧ (∀ (j k : Nat) x y, E[j]? = some x → E[k]? = some y → x.born = y.born → j = k)
  | .loop l cs => i.isRow = false ∧ w.heap[i.blk]? = some (.loop l) ∧ Reps G n cs l.tmps.toList
  | .dfr => i.isRow = false ∧ w.heap[i.blk]? = some (.deferred (some []))
  | .dead => True

/-- Does it take a block of the machine's? -/
def Blk.live (i : Info) : Blk → Bool
  | .dead => false
  | .row _ _ => decide (0 < i.size)
  | _ => true

/-- The world is as is told. w0: the world at the beginning, of which nothing is turned. -/
structure Sim (Γ : Nat → PV) (w0 : World) (G : Ghost) (H : List Blk) (w : World) : Prop where
  below : Below w0.heap.size w0 w
  mem : ∀ a v, G.M a = some v → w.cell? a = some v
  blk : ∀ (b : Nat) B, H[b]? = some B → BlkOk G H.length w (G.info b) B
  own : ∀ (b : Nat) B, H[b]? = some B → B.live (G.info b) = true → w0.heap.size ≤ (G.info b).blk ∧ (G.info b).blk < w.heap.size ∧ ∀ o s, G.M ⟨(G.info b).blk, o, s⟩ = none
  inj : ∀ (b b' : Nat) B B', H[b]? = some B → H[b']? = some B' → B.live (G.info b) = true → B'.live (G.info b') = true → (G.info b).blk = (G.info b').blk → b = b'
  glob : ∀ g, Rep G 0 (Γ g) (.pointer (some ⟨g, 0, none⟩))
  tab : ∀ g cs, Γ g = .cptr cs → ∃ C e q, w0.heap[g]? = some (.cells C e q) ∧ C.size = cs.length

end Go.Proofs.YtinedfjknhahmaaDoor.Fw
