/- The framework, ninth part: append. -/
import Derived.Test.YtinedfjknhahmaaDoorFwH
namespace Go.Proofs.YtinedfjknhahmaaDoor.Fw
set_option linter.unusedVariables false
set_option linter.unusedSimpArgs false
open Go.RowKit

theorem le_grownCap (w : World) (n c : Nat) (e : TypeId) : n ≤ grownCap w n c e := Nat.le_add_right _ _

section
variable {P : Program} {Γ : Nat → PV} {o : Oper} {A : List (Nat × PV)} {H : List Blk} {K : PV → List Blk → Prop}

theorem Rep.weaken {G : Ghost} {n : Nat} {es : List (List PV)} {f : Bool} {v : Value} (h : Rep G n (.vec es f) v) : Rep G n (.vec es false) v := by
  cases h with
  | vec0 => exact .vec0 _ _ _
  | vec _ _ _ b q sz cap vs hn hc hf hss h1 h2 h3 => exact .vec _ _ _ b q sz cap vs hn hc (fun h => by cases h) hss h1 h2 h3

/-- Elements behind a row that has no room (or none): a new row, which no one turns any more. -/
theorem os_appendV {x y : Operand} {t tx e : TypeId} {d : TypeDesc} {ti : TI} {es : List (List PV)} {xs : List PV} {n : Nat} (ho : o.op = .call { callee := .builtin .append, args := #[x, y], argTypes := #[t, tx] })
    (ht : P.underlying t = some (.slice e)) (he : tiOf P e = some ti) (htx : P.underlying tx = some d) (hd : (∃ e, d = .slice e) ∨ d = .string) (hx : ev Γ A x = .vec es true) (hes : ∀ e ∈ es, e.length = ti.size)
    (hy : srcOf H ti.size (ev Γ A y) = some xs) (hyv : ∀ es f, ev Γ A y = .vec es f → ∀ e ∈ es, e.length = ti.size) (hn : alen (ev Γ A y) = some n) (hb : (es.length + n) * ti.bytes ≤ 140737488355328) (hb' : es.length + n ≤ 9223372036854775807)
    (hk : K (.vec (es ++ chunk ti.size n xs) false) H) : OStep P Γ o A H K :=
  ostep_value (by simp [ho]) fun w0 G w N a hs ha => by
    obtain ⟨i, d', z, hi, hd', hz, hzs, hsz, hby, h1, hagg, hzero⟩ := tiOf_spec he
    have hxr := ha.ev hs.glob x
    rw [hx] at hxr
    obtain ⟨news, hsrc, hnr⟩ := src_spec (P := P) (tx := tx) hs (ha.ev hs.glob y) hy htx hd hyv hn
    have hrun : ∀ v w', (Builtin.append_ #[t, tx] o.type #[a.eval x, a.eval y]).run P w = .ok v w' → (execOp a.eval o).run P w = .ok (.value v) w' := fun v w' h => by
      simp [execOp, ho, resolve, invoke, builtin, h]
    obtain ⟨ad, cap, hax, h1', h2, h4, C, h5, h6, h7⟩ := vec_cells (P := P) hs.drew hxr hes
    rw [hax] at hrun hxr h5
    have hnl : xs.length = n * ti.size := by rw [hnr.1, hsrc.newsLen]
    rw [hsz.symm] at hsrc
    by_cases hn0 : n = 0
    · subst hn0
      have hnews : news = [] := by
        have := hsrc.newsLen
        simpa using this
      subst hnews
      refine ⟨_, w, G, _, H, hrun _ _ (run_append_nothing w t tx o.type e i ht hi ad es.length cap h1' _ hsrc), hs, ?_, Evol.refl _ _, Nat.le_refl _, hk⟩
      simp only [chunk, List.append_nil]
      exact hxr.weaken
    · obtain ⟨c1, c2, c3⟩ := chunk_spec hnl
      have hcap := h2 rfl
      have hgrow := run_append_grow_src (P := P) w t tx o.type e i z ht hi hz ad es.length cap C.toList (by rw [hsz]; simpa using h5) (a.eval y) n news hsrc (by omega) (by omega)
        (growslice_fits (by omega) (by rw [hby]; exact hb))
      let C' := (C.toList ++ news).toArray ++ Builtin.zeroCells z.cells (grownCap w (es.length + n) cap e - (es.length + n))
      have hgc : es.length + n ≤ grownCap w (es.length + n) cap e := le_grownCap _ _ _ _
      have hfl : (es ++ chunk ti.size n xs).flatten = es.flatten ++ xs := by rw [List.flatten_append, c2]
      have hlen : (es ++ chunk ti.size n xs).length = es.length + n := by rw [List.length_append, c1]
      obtain ⟨G', g1, g2, g3⟩ := hs.drew.newVec C' e (es := es ++ chunk ti.size n xs) (sz := ti.size) (cap := grownCap w (es.length + n) cap e) (f := false) (fun e he => by
          rcases List.mem_append.1 he with h | h
          · exact hes e h
          · exact c3 e h) (fun j c hc => by
        rw [hfl] at hc
        have hreps : Reps G 0 (es.flatten ++ xs) (C.toList ++ news) := h6.append hnr
        have hj := (List.getElem?_eq_some_iff.1 hc).1
        have hj' : j < (C.toList ++ news).length := by rw [← hreps.1]; exact hj
        have hget : C'[j]? = (C.toList ++ news)[j]? := by
          show ((C.toList ++ news).toArray ++ _)[j]? = _
          rw [Array.getElem?_append_left (by simpa using hj')]
          simp
        refine ⟨(C.toList ++ news)[j], by rw [hget, List.getElem?_eq_getElem hj'], hreps.2 j c _ hc (List.getElem?_eq_getElem hj'), ?_⟩
        have hmem := List.getElem_mem hj'
        rcases List.mem_append.1 hmem with h | h
        · obtain ⟨k, hk', he'⟩ := List.mem_iff_getElem.1 h
          rw [← he']
          exact h7 k _ (by simp at hk' ⊢)
        · exact hsrc.one _ h) (by rw [hlen]; exact hb') (by rw [hlen]; exact hgc) (fun h => by cases h) H.length
      rw [hlen] at g3
      exact ⟨_, _, G', _, H, hrun _ _ hgrow, g1, g3, g2, Nat.le_refl _, hk⟩

theorem os_appendVV {x y : Operand} {t tx e e' : TypeId} {ti : TI} {es fs : List (List PV)} {f : Bool} (ho : o.op = .call { callee := .builtin .append, args := #[x, y], argTypes := #[t, tx] })
    (ht : P.underlying t = some (.slice e)) (he : tiOf P e = some ti) (htx : P.underlying tx = some (.slice e')) (hx : ev Γ A x = .vec es true) (hes : ∀ e ∈ es, e.length = ti.size)
    (hy : ev Γ A y = .vec fs f) (hfs : ∀ e ∈ fs, e.length = ti.size) (hb : (es.length + fs.length) * ti.bytes ≤ 140737488355328) (hb' : es.length + fs.length ≤ 9223372036854775807)
    (hk : K (.vec (es ++ fs) false) H) : OStep P Γ o A H K :=
  os_appendV ho ht he htx (.inl ⟨e', rfl⟩) hx hes (by rw [hy]; rfl) (fun es f h => by rw [hy] at h; cases h; exact hfs) (by rw [hy]; rfl) hb hb' (by rw [chunk_flatten hfs]; exact hk)

/-- Elements behind one's own row, in a world. -/
theorem append_row_sem {x y : Operand} {t tx e : TypeId} {d : TypeDesc} {ti : TI} {b q k : Nat} {cs xs : List PV} {n : Nat} (ho : o.op = .call { callee := .builtin .append, args := #[x, y], argTypes := #[t, tx] })
    (ht : P.underlying t = some (.slice e)) (he : tiOf P e = some ti) (htx : P.underlying tx = some d) (hd : (∃ e, d = .slice e) ∨ d = .string) (hbk : H[b]? = some (.row ti.size cs)) (hl : cs.length = q + k * ti.size)
    (hy : srcOf H ti.size (ev Γ A y) = some xs) (hyv : ∀ es f, ev Γ A y = .vec es f → ∀ e ∈ es, e.length = ti.size) (hn : alen (ev Γ A y) = some n) (hbd : (k + n) * ti.bytes ≤ 140737488355328) (hbd' : k + n ≤ 9223372036854775807)
    (hk : K (.row b q (k + n) ti.size) (H.set b (.row ti.size (cs ++ xs)))) {w0 w : World} {G : Ghost} {N : Nat} {a : Act} (hs : Sim Γ w0 G H w) (ha : ASim G H.length N A a) (hxr : Rep G H.length (.row b q k ti.size) (a.eval x)) :
    ∃ v w' G' p H', (execOp a.eval o).run P w = .ok (.value v) w' ∧ Sim Γ w0 G' H' w' ∧ Rep G' H'.length p v ∧ Evol G H.length G' ∧ H.length ≤ H'.length ∧ K p H' := by
    obtain ⟨i, d', z, hi, hd', hz, hzs, hsz, hby, h1, hagg, hzero⟩ := tiOf_spec he
    obtain ⟨news, hsrc, hnr⟩ := src_spec (P := P) (tx := tx) hs (ha.ev hs.glob y) hy htx hd hyv hn
    have hrun : ∀ v w', (Builtin.append_ #[t, tx] o.type #[a.eval x, a.eval y]).run P w = .ok v w' → (execOp a.eval o).run P w = .ok (.value v) w' := fun v w' h => by
      simp [execOp, ho, resolve, invoke, builtin, h]
    obtain ⟨hr, hlen, hszp, hsub, hcb, hrest⟩ := hs.blk b _ hbk
    have hblt := (List.getElem?_eq_some_iff.1 hbk).1
    obtain ⟨ad, cap, hax, hlt, _, hle, had⟩ := hxr.row_inv
    obtain ⟨hkc, hcase⟩ := had (by omega)
    rw [hax] at hrun
    have hnl : xs.length = n * ti.size := by rw [hnr.1, hsrc.newsLen]
    have hnnl : news.length = n * ti.size := hsrc.newsLen
    have hxb : PV.bdL H.length (cs ++ xs) = true := by rw [PV.bdL_append, hcb, PV.bdL_mono (Nat.zero_le _) _ hnr.bound]; rfl
    rw [hsz.symm] at hsrc
    by_cases hn0 : n = 0
    · subst hn0
      have hnews : news = [] := by
        have := hsrc.newsLen
        simpa using this
      subst hnews
      have hxs : xs = [] := by
        have := hnr.1
        simpa using this
      subst hxs
      have hset : H.set b (.row ti.size (cs ++ [])) = H := by
        rw [List.append_nil]
        have := (List.getElem?_eq_some_iff.1 hbk).2
        rw [← this]
        exact List.set_getElem_self hblt
      rw [hset] at hk
      exact ⟨_, w, G, _, H, hrun _ _ (run_append_nothing w t tx o.type e i ht hi ad k cap hkc _ hsrc), hs, by rw [← hax]; exact hxr |> fun h => by rw [hax] at h ⊢; exact h, Evol.refl _ _, Nat.le_refl _, hk⟩
    · have hnpos : 0 < n * ti.size := Nat.mul_pos (by omega) hszp
      by_cases hroom : k + n ≤ cap
      · rcases hcase with ⟨hsq, rfl, hsize⟩ | ⟨hk0, hc0⟩
        · rcases hrest with ⟨hz0, _⟩ | ⟨hpos, C, te, hh, hCs, hCle, h5⟩
          · have := Nat.mul_pos (show 0 < cap by omega) hszp; omega
          · have hkn : (k + n) * ti.size = k * ti.size + n * ti.size := Nat.add_mul _ _ _
            have hcapm : (k + n) * ti.size ≤ cap * ti.size := Nat.mul_le_mul_right _ hroom
            have hst := run_storeCells_at (P := P) (G.info b).blk (q - (G.info b).sub + k * ti.size) te news 0 C w hh (by rw [hCs]; omega) hsrc.one
            have happ := run_append_room' (P := P) w _ t tx o.type e i ht hi (G.info b).blk (q - (G.info b).sub) k cap (a.eval y) n news hsrc hroom (by rw [hsz]; exact hst)
            let i' : Info := { (G.info b) with len := cs.length + xs.length }
            have hev : Evol G H.length (G.setInfo b i') := ⟨fun _ _ h => h, fun m _ => by
              by_cases hm : m = b
              · subst hm; exact .inr ⟨hr, by rw [G.setInfo_same]; exact hr, by rw [G.setInfo_same, hlen]; show cs.length < cs.length + xs.length; omega⟩
              · exact .inl (G.setInfo_other i' hm)⟩
            have hown := hs.own b _ hbk (by simpa [Blk.live] using hpos)
            let C' := (C.toList.take (q - (G.info b).sub + k * ti.size + 0) ++ news ++ C.toList.drop (q - (G.info b).sub + k * ti.size + 0 + news.length)).toArray
            have hsim : Sim Γ w0 (G.setInfo b i') (H.set b (.row ti.size (cs ++ xs))) (w.setRow (G.info b).blk C') := by
              refine hs.set hbk hev (fun m _ hm => G.setInfo_other i' hm) (hs.below.trans ⟨rfl, rfl, rfl, by simp, fun m hm => setRow_other w _ m _ (by omega)⟩) (by simp) (fun m D hD hm hl => setRow_other w _ _ _ (fun e => hm (hs.inj m b D _ hD hbk hl (by simpa [Blk.live] using hpos) e)))
                (fun ad' v ha' => ?_) (fun m D hD _ hl => (hs.own m D hD hl).2.2) ?_ (fun _ => ?_)
              · have hc := hs.mem ad' v ha'
                have hne : ad'.block ≠ (G.info b).blk := by
                  intro e
                  obtain ⟨g, o', s⟩ := ad'
                  simp only at e
                  subst e
                  have : G.M ⟨(G.info b).blk, o', s⟩ = some v := ha'
                  rw [hown.2.2 o' s] at this; cases this
                rw [cell_setRow_other w _ _ _ hne]; exact hc
              · rw [G.setInfo_same]
                refine ⟨hr, by simp [i'], hszp, by simp [i']; omega, hxb, .inr ⟨hpos, C', te, setRow_heap w _ C _ te _ hh, ?_, ?_, fun j c u hc hu => ?_⟩⟩
                · show C'.size = (G.info b).size
                  simp [C']; omega
                · show (cs ++ xs).length - (G.info b).sub ≤ C'.size
                  simp [C']; omega
                · have hu' : (C.toList.take (q - (G.info b).sub + k * ti.size) ++ news ++ C.toList.drop (q - (G.info b).sub + k * ti.size + news.length))[j]? = some u := by simpa [C'] using hu
                  have hCl : C.toList.length = (G.info b).size := Array.length_toList.trans hCs
                  rw [get_splice _ _ _ _ (by omega)] at hu'
                  have hc' : (cs ++ xs)[(G.info b).sub + j]? = some c := hc
                  have hjl := (List.getElem?_eq_some_iff.1 hc').1
                  rw [List.length_append] at hjl
                  by_cases c1 : (G.info b).sub + j < cs.length
                  · rw [List.getElem?_append_left c1] at hc'
                    rw [if_pos (by omega)] at hu'
                    have := h5 j c u hc' (by simpa using hu')
                    exact ⟨this.1.mono _ hev (Nat.le_refl _), this.2⟩
                  · rw [List.getElem?_append_right (by omega)] at hc'
                    rw [if_neg (by omega), if_pos (by omega), show j - (q - (G.info b).sub + k * ti.size) = (G.info b).sub + j - cs.length by omega] at hu'
                    exact ⟨(hnr.2 _ c u hc' hu').mono _ (hev.less (Nat.zero_le _)) (Nat.zero_le _), hsrc.one u (List.mem_of_getElem? hu')⟩
              · rw [G.setInfo_same]
                exact ⟨hown.1, by simp [i']; exact hown.2.1, hown.2.2, fun m D hD hm hl e => hm (hs.inj m b D _ hD hbk hl (by simpa [Blk.live] using hpos) e)⟩
            refine ⟨_, _, G.setInfo b i', _, _, hrun _ _ happ, hsim, ?_, hev, by simp, hk⟩
            refine .row _ b q (k + n) ti.size _ cap hbd' (by simp; exact hblt) (by rw [G.setInfo_same]; exact hr) (by rw [G.setInfo_same]; show _ ≤ cs.length + xs.length; omega) (fun _ => ⟨hroom, .inl ?_⟩)
            rw [G.setInfo_same]
            exact ⟨hsq, rfl, hsize⟩
        · omega
      · have hold : ∃ olds : List Value, (Builtin.firstCells i.size k (.slice ad k cap)).run P w.drew = .ok olds.toArray w.drew ∧ olds.length = k * ti.size ∧ ∀ (j : Nat) c u, cs[q + j]? = some c → olds[j]? = some u → Rep G H.length c u ∧ u.oneCell' = true := by
          rcases hcase with ⟨hsq, rfl, hsize⟩ | ⟨hk0, hc0⟩
          · rcases hrest with ⟨hz0, hcl⟩ | ⟨hpos, C, te, hh, hCs, hCle, h5⟩
            · have hk0 : k = 0 := by
                rcases Nat.eq_zero_or_pos k with h | h
                · exact h
                · have := Nat.mul_pos h hszp; omega
              subst hk0
              exact ⟨[], by simp [Builtin.firstCells, loadCells, loadCellsFrom], by simp, fun j c u _ hu => by simp at hu⟩
            · refine ⟨(C.toList.drop (q - (G.info b).sub)).take (k * ti.size), ?_, ?_, fun j c u hc hu => ?_⟩
              · rw [hsz]
                refine run_firstCells_some (P := P) w.drew ti.size k _ k cap _ ?_ (fun j v hj => ?_)
                · rw [List.length_take, List.length_drop, Array.length_toList]; omega
                · rw [List.getElem?_take] at hj
                  split at hj
                  · rw [List.getElem?_drop] at hj
                    rw [Fw.add_at]
                    have hh' : w.drew.heap[(G.info b).blk]? = some (.cells C te (0, 0)) := hh
                    simp only [World.cell?, hh']
                    simpa using hj
                  · cases hj
              · rw [List.length_take, List.length_drop, Array.length_toList]; omega
              · rw [List.getElem?_take] at hu
                split at hu
                · rw [List.getElem?_drop] at hu
                  exact h5 (q - (G.info b).sub + j) c u (by rw [show (G.info b).sub + (q - (G.info b).sub + j) = q + j by omega]; exact hc) (by simpa using hu)
                · cases hu
          · subst hk0
            refine ⟨[], ?_, by simp, fun j c u _ hu => by simp at hu⟩
            cases ad <;> simp [Builtin.firstCells, loadCells, loadCellsFrom]
        obtain ⟨olds, hold1, hold2, hold3⟩ := hold
        have hgrow := run_append_grow_src (P := P) w t tx o.type e i z ht hi hz ad k cap olds hold1 (a.eval y) n news hsrc (by omega) (by omega) (growslice_fits (by omega) (by rw [hby]; exact hbd))
        have hgc : k + n ≤ grownCap w (k + n) cap e := le_grownCap _ _ _ _
        generalize hcapg : grownCap w (k + n) cap e = ncap at hgrow hgc
        let C' := (olds ++ news).toArray ++ Builtin.zeroCells z.cells (ncap - (k + n))
        have hC's : C'.size = ncap * ti.size := by
          have h1 : (Builtin.zeroCells z.cells (ncap - (k + n))).size = (ncap - (k + n)) * ti.size := by simp [Builtin.zeroCells, hzs]
          show ((olds ++ news).toArray ++ _).size = _
          rw [Array.size_append, h1]
          simp only [List.size_toArray, List.length_append, hold2, hnnl]
          rw [← Nat.add_mul, ← Nat.add_mul]
          congr 1
          omega
        have hncp : 0 < ncap * ti.size := Nat.mul_pos (by omega) hszp
        let i' : Info := { blk := w.heap.size, len := cs.length + xs.length, size := ncap * ti.size, sub := q, isRow := true }
        have hev : Evol G H.length (G.setInfo b i') := ⟨fun _ _ h => h, fun m _ => by
          by_cases hm : m = b
          · subst hm; exact .inr ⟨hr, by rw [G.setInfo_same], by rw [G.setInfo_same, hlen]; show cs.length < cs.length + xs.length; omega⟩
          · exact .inl (G.setInfo_other i' hm)⟩
        have hsD := hs.drew
        have hsim : Sim Γ w0 (G.setInfo b i') (H.set b (.row ti.size (cs ++ xs))) (w.drew.alloc (.cells C' e)) := by
          refine hsD.set hbk hev (fun m _ hm => G.setInfo_other i' hm) (hsD.below.alloc hsD.size _) (by simp) (fun m D hD hm hl => Below.heap_alloc _ _ _ (hsD.own m D hD hl).2.1)
            (fun ad' v ha' => ?_) (fun m D hD _ hl => (hsD.own m D hD hl).2.2) ?_ (fun _ => ?_)
          · have hc := hsD.mem ad' v ha'
            rw [cell_of_heap (w := w.drew) (Below.heap_alloc _ _ _ (World.block_lt_of_cell? w.drew ad' hc))]; exact hc
          · rw [G.setInfo_same]
            refine ⟨rfl, by simp [i'], hszp, by simp [i']; omega, hxb, .inr ⟨hncp, C', e, heap_new w.drew _, hC's, ?_, fun j c u hc hu => ?_⟩⟩
            · show (cs ++ xs).length - q ≤ C'.size
              rw [hC's, List.length_append]
              have : (k + n) * ti.size ≤ ncap * ti.size := Nat.mul_le_mul_right _ hgc
              rw [Nat.add_mul] at this
              omega
            · have hc' : (cs ++ xs)[q + j]? = some c := hc
              have hjl := (List.getElem?_eq_some_iff.1 hc').1
              rw [List.length_append] at hjl
              have hu' : (olds ++ news)[j]? = some u := by
                have : ((olds ++ news).toArray ++ Builtin.zeroCells z.cells (ncap - (k + n)))[j]? = some u := hu
                rw [Array.getElem?_append_left (by simp; omega)] at this
                simpa using this
              by_cases c1 : q + j < cs.length
              · rw [List.getElem?_append_left c1] at hc'
                rw [List.getElem?_append_left (by omega)] at hu'
                have := hold3 j c u hc' hu'
                exact ⟨this.1.mono _ hev (Nat.le_refl _), this.2⟩
              · rw [List.getElem?_append_right (by omega)] at hc'
                rw [List.getElem?_append_right (by omega), show j - olds.length = q + j - cs.length by omega] at hu'
                exact ⟨(hnr.2 _ c u hc' hu').mono _ (hev.less (Nat.zero_le _)) (Nat.zero_le _), hsrc.one u (List.mem_of_getElem? hu')⟩
          · rw [G.setInfo_same]
            exact ⟨hs.size, by simp [i'], fun o' s => hs.M_new (Nat.le_refl _) o' s, fun m D hD _ hl e => by
              have := (hs.own m D hD hl).2.1
              have he' : (G.info m).blk = w.heap.size := e
              omega⟩
        refine ⟨_, _, G.setInfo b i', _, _, hrun _ _ hgrow, hsim, ?_, hev, by simp, hk⟩
        refine .row _ b q (k + n) ti.size _ ncap hbd' (by simp; exact hblt) (by rw [G.setInfo_same]) (by rw [G.setInfo_same, Nat.add_mul]; show _ ≤ cs.length + xs.length; omega) (fun _ => ⟨hgc, .inl ?_⟩)
        rw [G.setInfo_same]
        exact ⟨Nat.le_refl _, by show _ = some (⟨w.heap.size, q - q, none⟩ : Addr); rw [Nat.sub_self], by show q - q + _ = _; rw [Nat.sub_self, Nat.zero_add]⟩


/-- Elements behind one's own row. -/
theorem os_appendR {x y : Operand} {t tx e : TypeId} {d : TypeDesc} {ti : TI} {b q k : Nat} {cs xs : List PV} {n : Nat} (ho : o.op = .call { callee := .builtin .append, args := #[x, y], argTypes := #[t, tx] })
    (ht : P.underlying t = some (.slice e)) (he : tiOf P e = some ti) (htx : P.underlying tx = some d) (hd : (∃ e, d = .slice e) ∨ d = .string) (hx : ev Γ A x = .row b q k ti.size) (hbk : H[b]? = some (.row ti.size cs)) (hl : cs.length = q + k * ti.size)
    (hy : srcOf H ti.size (ev Γ A y) = some xs) (hyv : ∀ es f, ev Γ A y = .vec es f → ∀ e ∈ es, e.length = ti.size) (hn : alen (ev Γ A y) = some n) (hbd : (k + n) * ti.bytes ≤ 140737488355328) (hbd' : k + n ≤ 9223372036854775807)
    (hk : K (.row b q (k + n) ti.size) (H.set b (.row ti.size (cs ++ xs)))) : OStep P Γ o A H K :=
  ostep_value (by simp [ho]) fun w0 G w N a hs ha => append_row_sem ho ht he htx hd hbk hl hy hyv hn hbd hbd' hk hs ha (by have := ha.ev hs.glob x; rw [hx] at this; exact this)

end
end Go.Proofs.YtinedfjknhahmaaDoor.Fw
