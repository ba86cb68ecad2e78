/- The contracts of what is gathered of pairs' atoms. -/
import Derived.Test.YteicbhkimepbaaaGreatDoorWD
import Derived.Test.YteicbhkimepbaaaGreatDoorWC
import Derived.WideKeyRuns
import Derived.Test.YteicbhkimepbaaaGreatDoorWB
namespace Go.Proofs.YteicbhkimepbaaaGreatDoor
set_option linter.unusedVariables false
set_option linter.unusedSimpArgs false
set_option maxRecDepth 100000
open Go.RowKit Fw
def outs (g : Int → Int × Bool) (a : Int) : List Int := if (g a).2 then [(g a).1] else []
def outsP (g : Int → Int × Bool) (ps : List Pr) : List Int := ps.flatMap fun p => outs g p.a ++ outs g p.b
def onceI (l : List Int) : List Int := cpt (l.mergeSort leI) (l.mergeSort leI).length
def gath (g : Int → Int × Bool) (ps : List Pr) : List Int := onceI (outsP g ps)
theorem outs_le (g : Int → Int × Bool) (a : Int) : (outs g a).length ≤ 1 := by unfold outs; split <;> simp
theorem outsP_le (g : Int → Int × Bool) (ps : List Pr) : (outsP g ps).length ≤ 2 * ps.length := by
  induction ps with
  | nil => simp [outsP]
  | cons p ps ih =>
    have h1 := outs_le g p.a
    have h2 := outs_le g p.b
    unfold outsP at ih ⊢
    rw [List.flatMap_cons, List.length_append, List.length_append, List.length_cons]
    omega
theorem outsP_snoc (g : Int → Int × Bool) (ps : List Pr) (i : Nat) (p : Pr) (h : ps[i]? = some p) : outsP g (ps.take (i + 1)) = outsP g (ps.take i) ++ (outs g p.a ++ outs g p.b) := by
  unfold outsP
  rw [List.take_add_one, h, List.flatMap_append]
  simp
def inn (g : Int → Int × Bool) (a b : Int) : Nat → List Int
  | 0 => []
  | 1 => outs g a
  | _ => outs g a ++ outs g b
theorem inn_le (g : Int → Int × Bool) (a b : Int) (j : Nat) : (inn g a b j).length ≤ 2 := by
  have h1 := outs_le g a
  have h2 := outs_le g b
  unfold inn
  split <;> simp <;> omega
theorem take_pre' {H H' : List Blk} (h : H'.take H.length = H) : H' = H ++ H'.drop H.length := by
  conv => lhs; rw [← List.take_append_drop H.length H', h]
set_option maxHeartbeats 1000000 in
theorem c87 (Γ : Nat → PV) (f : Nat) (he : Enters Tryz.prog f) (g : Int → Int × Bool) (ps : List Pr) (fl : Bool) (hbl : ps.length ≤ 100000000)
    (hf : ∀ p ∈ ps, Gives Tryz.prog Γ f [.int .i64 p.a] (.tup [.int .i64 (g p.a).1, .bool (g p.a).2]) ∧ Gives Tryz.prog Γ f [.int .i64 p.b] (.tup [.int .i64 (g p.b).1, .bool (g p.b).2])) :
    Gives Tryz.prog Γ 87 [.vec (ps.map Pr.enc) fl, .func (.func f) [] []] (.vec ((gath g ps).map I1) false) := by
  refine fn_of_awp Tryz.func87 rfl (by simp [Tryz.f87]) rfl fun H => ?_
  refine awp_bd fun hbd => ?_
  have hout := outsP_le g ps
  refine awp_seq ?_
  refine awp_run rfl (by simp only [fwA, seval] <;> rfl) ?_
  refine awp_seq ?_
  refine awp_run rfl (by simp only [fwA, seval] <;> rfl) ?_
  refine awp_seq ?_
  refine awp_seq ?_
  refine awp_run rfl (by simp only [fwA, seval, bx, List.length_map] <;> rfl) ?_
  refine awp_told (told_adopt 5 1 (by decide) rfl) ?_
  refine awp_block ?_
  refine awp_forG [1, 5, 12, 13, 14] (fun i : Nat => [.func (.func f) [] [], .row H.length 0 (outsP g (ps.take i)).length 1, .vec (ps.map Pr.enc) fl, .int .i64 (ps.length : Int), .int .i64 (i : Int)])
    (fun i => H ++ [.row 1 (((outsP g (ps.take i)).map I1).flatten)]) (fun i => ps.length - i) (fun i => i ≤ ps.length) 0 rfl rfl (Nat.zero_le _)
    (fun i _ => ⟨bd_app (fun B hB => hbd B hB) (by simp only [List.all_cons, List.all_nil, Blk.bd, flat_bd (fun x => I1_fw.2.2 _ x), Bool.and_true]), by simp [PV.bdL, PV.bd]⟩) (fun i _ b hb => by cases hb) fun i hi => ?_
  refine awp_seq ?_
  refine awp_run rfl (by simp only [fwA, seval] <;> rfl) ?_
  refine awp_seq ?_
  refine awp_cond (by simp only [fwA, seval] <;> rfl) ?_
  by_cases hc : (i : Int) < ps.length
  rotate_left
  · simp only [hc, decide_false, Bool.false_eq_true, ↓reduceIte]
    refine awp_exit ?_
    have e : i = ps.length := by omega
    subst e
    rw [List.take_length]
    have hb0 : (H ++ [Blk.row 1 (((outsP g ps).map I1).flatten)])[H.length]? = some (.row 1 (((outsP g ps).map I1).flatten)) := get_at0 H _
    refine awp_seq ?_
    refine awp_region rfl ?_
    refine aops_run 1 (by simp only [fwA, seval] <;> rfl) ?_
    refine aops_call rfl rfl rfl en122 ((sortInts sort53 Γ _ H.length (outsP g ps) hb0 (by omega)).mono fun p H1 hp => ?_)
    obtain ⟨rfl, rfl⟩ := hp
    refine aops_end ?_
    have hb1 : (H ++ [Blk.row 1 ((((outsP g ps).mergeSort leI).map I1).flatten)])[H.length]? = some (.row 1 ((((outsP g ps).mergeSort leI).map I1).flatten)) := get_at0 H _
    have hml : (outsP g ps).length = ((outsP g ps).mergeSort leI).length := (List.length_mergeSort _).symm
    refine awp_seq ?_
    refine awp_region rfl ?_
    rw [hml]
    refine aops_run 1 (by simp only [fwA, seval] <;> rfl) ?_
    refine aops_call rfl rfl rfl en123 ((c123 Γ _ H.length H.length ((outsP g ps).mergeSort leI) (Nat.le_refl _) hb1 (by omega)).mono fun p H4 hp => ?_)
    obtain ⟨b2, rfl, hb2, hnb2, ht2, _⟩ := hp
    rw [List.take_left' rfl] at ht2
    refine aops_run 1 (by simp only [fwA, seval] <;> rfl) ?_
    have hH4 := take_pre' ht2
    generalize H4.drop H.length = L at hH4
    subst hH4
    obtain ⟨j, rfl⟩ : ∃ j, b2 = H.length + j := ⟨b2 - H.length, by omega⟩
    rw [List.getElem?_append_right (by omega), show H.length + j - H.length = j by omega] at hb2
    have hfold : cpt ((outsP g ps).mergeSort leI) ((outsP g ps).mergeSort leI).length = gath g ps := rfl
    rw [hfold] at hb2 ⊢
    refine awp_told (told_freezeAt H L j hb2 (flat_bd (fun _ => rfl) _)) ?_
    refine awp_ret ?_
    refine gives_end (.inl rfl) _ ?_
    have hl := flat_len I1_len (gath g ps)
    have hch := flat_chunk I1_len (gath g ps)
    simp only [fwA, seval, hl, hch]
    rfl
  simp only [hc, decide_true, ↓reduceIte]
  refine awp_skip ?_
  have hil : i < ps.length := by omega
  have ga : ps[i]? = some ps[i] := List.getElem?_eq_getElem hil
  obtain ⟨hfa, hfb⟩ := hf ps[i] (List.getElem_mem hil)
  have hacc := outsP_le g (ps.take i)
  have hnext := outsP_snoc g ps i _ ga
  rw [List.length_take] at hacc
  generalize ps[i] = p at ga hfa hfb hnext
  generalize outsP g (ps.take i) = acc at hacc hnext
  refine awp_seq ?_
  refine awp_block ?_
  refine awp_seq ?_
  refine awp_run rfl (by simp only [fwA, seval, gfw, bx, dx, ga] <;> rfl) ?_
  refine awp_seq ?_
  refine awp_run rfl (by simp only [fwA, seval, bx, dx] <;> rfl) ?_
  refine awp_block ?_
  refine awp_for [1, 5, 12, 13, 14, 22, 23, 24] (fun j : Nat => [.func (.func f) [] [], .row H.length 0 (acc ++ inn g p.a p.b j).length 1, .vec (ps.map Pr.enc) fl, .int .i64 (ps.length : Int), .int .i64 (i : Int), .vec [[.int .i64 p.a], [.int .i64 p.b]] true, .int .i64 2, .int .i64 (j : Int)])
    (fun j => H ++ [.row 1 (((acc ++ inn g p.a p.b j).map I1).flatten), .box p.enc]) (fun j => 2 - j) (fun j => j ≤ 2) 0 (by simp only [fwA, seval, gfw, inn, List.append_nil] <;> rfl) (by simp only [inn, List.append_nil, List.append_assoc]) (by omega) fun j hj => ?_
  refine awp_seq ?_
  refine awp_run rfl (by simp only [fwA, seval] <;> rfl) ?_
  refine awp_seq ?_
  refine awp_cond (by simp only [fwA, seval] <;> rfl) ?_
  obtain rfl | hlt : j = 2 ∨ j < 2 := by omega
  · have h2 : ¬ ((2 : Nat) : Int) < 2 := by omega
    simp only [h2, decide_false, Bool.false_eq_true, ↓reduceIte]
    refine awp_exit ?_
    refine awp_run rfl (by simp only [fwA, seval] <;> rfl) ?_
    refine ⟨i + 1, [.box p.enc], by omega, by omega, ?_, ?_, rfl, by simp⟩
    · rw [hnext]; simp only [fwA, seval, gfw, wrapS i (by omega), inn]
    · rw [hnext]; simp only [inn, List.append_assoc]; rfl
  have h2 : (j : Int) < 2 := by omega
  simp only [h2, decide_true, ↓reduceIte]
  refine awp_skip ?_
  obtain ⟨x, hx, hfx, hin⟩ : ∃ x, [[PV.int .i64 p.a], [PV.int .i64 p.b]][j]? = some [.int .i64 x] ∧ Gives Tryz.prog Γ f [.int .i64 x] (.tup [.int .i64 (g x).1, .bool (g x).2]) ∧ inn g p.a p.b (j + 1) = inn g p.a p.b j ++ outs g x := by
    obtain rfl | rfl : j = 0 ∨ j = 1 := by omega
    · exact ⟨p.a, rfl, hfa, rfl⟩
    · exact ⟨p.b, rfl, hfb, rfl⟩
  have hwj : IntKind.i64.wrap ((j : Int) + 1) = ((j + 1 : Nat) : Int) := wrapS j (by omega)
  have hinl := inn_le g p.a p.b j
  refine awp_seq ?_
  refine awp_block ?_
  refine awp_seq ?_
  refine awp_run rfl (by simp only [fwA, seval, gfw, bx, hx] <;> rfl) ?_
  refine awp_seq ?_
  refine awp_region rfl ?_
  refine aops_run 2 (by simp only [fwA, seval] <;> rfl) ?_
  refine aops_fn rfl rfl rfl he hfx ?_
  refine aops_run 5 (by simp only [fwA, seval] <;> rfl) ?_
  refine awp_seq ?_
  refine awp_run rfl (by simp only [fwA, seval] <;> rfl) ?_
  refine awp_cond (by simp only [fwA, seval] <;> rfl) ?_
  cases hg : (g x).2 with
  | false =>
    have ho : outs g x = [] := by unfold outs; rw [hg]; rfl
    rw [ho, List.append_nil] at hin
    simp only [Bool.false_eq_true, ↓reduceIte]
    refine awp_skip ?_
    refine awp_run rfl (by simp only [fwA, seval] <;> rfl) ?_
    refine ⟨j + 1, by omega, by omega, ?_, by rw [hin], rfl⟩
    rw [hin]; simp only [fwA, seval, gfw, hwj]
  | true =>
    have ho : outs g x = [(g x).1] := by unfold outs; rw [hg]; rfl
    rw [ho] at hin
    simp only [↓reduceIte]
    have hfl := flat_len I1_len (acc ++ inn g p.a p.b j)
    refine awp_region rfl ?_
    refine aops_run 3 (by simp only [fwA, seval, bx] <;> rfl) ?_
    refine aops_one rfl (os_appendR rfl un49 ti28 un49 (.inl ⟨_, rfl⟩) rfl (get_at0 H _) (by rw [hfl]; exact (Nat.zero_add _).symm) rfl (fun es f h e he => by
      simp only [fwA, seval, PV.vec.injEq] at h
      obtain ⟨rfl, rfl⟩ := h
      simp only [List.mem_singleton] at he
      subst he; rfl) rfl (by simp only [List.length_append]; show (_ + _ + 1) * 8 ≤ _; omega) (by simp only [List.length_append]; show _ + _ + 1 ≤ _; omega) ?_)
    refine aops_run 1 (by simp only [fwA, seval] <;> rfl) ?_
    refine awp_run rfl (by simp only [fwA, seval] <;> rfl) ?_
    have hap : acc ++ inn g p.a p.b (j + 1) = (acc ++ inn g p.a p.b j) ++ [(g x).1] := by rw [hin, List.append_assoc]
    refine ⟨j + 1, by omega, by omega, ?_, ?_, rfl⟩
    · rw [hap]
      generalize acc ++ inn g p.a p.b j = acc2
      simp only [fwA, seval, gfw, hwj, List.length_append]
      rfl
    · rw [hap]
      generalize acc ++ inn g p.a p.b j = acc2
      rw [List.map_append, List.flatten_append]
      simp [I1]
set_option maxHeartbeats 1000000 in
theorem c107 (Γ : Nat → PV) (f : Nat) (he : Enters Tryz.prog f) (g : Int → Int × Bool) (ps : List Pr) (fl : Bool) (hbl : ps.length ≤ 100000000)
    (hf : ∀ p ∈ ps, Gives Tryz.prog Γ f [.int .i64 p.a] (.tup [.int .i64 (g p.a).1, .bool (g p.a).2]) ∧ Gives Tryz.prog Γ f [.int .i64 p.b] (.tup [.int .i64 (g p.b).1, .bool (g p.b).2])) :
    Gives Tryz.prog Γ 107 [.vec (ps.map Pr.enc) fl, .func (.func f) [] []] (.vec ((gath g ps).map I1) false) := by
  refine fn_of_awp Tryz.func107 rfl (by simp [Tryz.f107]) rfl fun H => ?_
  refine awp_bd fun hbd => ?_
  have hout := outsP_le g ps
  refine awp_seq ?_
  refine awp_run rfl (by simp only [fwA, seval] <;> rfl) ?_
  refine awp_seq ?_
  refine awp_run rfl (by simp only [fwA, seval] <;> rfl) ?_
  refine awp_seq ?_
  refine awp_seq ?_
  refine awp_run rfl (by simp only [fwA, seval, bx, List.length_map] <;> rfl) ?_
  refine awp_told (told_adopt 5 1 (by decide) rfl) ?_
  refine awp_block ?_
  refine awp_forG [1, 5, 12, 13, 14] (fun i : Nat => [.func (.func f) [] [], .row H.length 0 (outsP g (ps.take i)).length 1, .vec (ps.map Pr.enc) fl, .int .i64 (ps.length : Int), .int .i64 (i : Int)])
    (fun i => H ++ [.row 1 (((outsP g (ps.take i)).map I1).flatten)]) (fun i => ps.length - i) (fun i => i ≤ ps.length) 0 rfl rfl (Nat.zero_le _)
    (fun i _ => ⟨bd_app (fun B hB => hbd B hB) (by simp only [List.all_cons, List.all_nil, Blk.bd, flat_bd (fun x => I1_fw.2.2 _ x), Bool.and_true]), by simp [PV.bdL, PV.bd]⟩) (fun i _ b hb => by cases hb) fun i hi => ?_
  refine awp_seq ?_
  refine awp_run rfl (by simp only [fwA, seval] <;> rfl) ?_
  refine awp_seq ?_
  refine awp_cond (by simp only [fwA, seval] <;> rfl) ?_
  by_cases hc : (i : Int) < ps.length
  rotate_left
  · simp only [hc, decide_false, Bool.false_eq_true, ↓reduceIte]
    refine awp_exit ?_
    have e : i = ps.length := by omega
    subst e
    rw [List.take_length]
    have hb0 : (H ++ [Blk.row 1 (((outsP g ps).map I1).flatten)])[H.length]? = some (.row 1 (((outsP g ps).map I1).flatten)) := get_at0 H _
    refine awp_seq ?_
    refine awp_region rfl ?_
    refine aops_run 1 (by simp only [fwA, seval] <;> rfl) ?_
    refine aops_call rfl rfl rfl en132 ((sortInts sort55 Γ _ H.length (outsP g ps) hb0 (by omega)).mono fun p H1 hp => ?_)
    obtain ⟨rfl, rfl⟩ := hp
    refine aops_end ?_
    have hb1 : (H ++ [Blk.row 1 ((((outsP g ps).mergeSort leI).map I1).flatten)])[H.length]? = some (.row 1 ((((outsP g ps).mergeSort leI).map I1).flatten)) := get_at0 H _
    have hml : (outsP g ps).length = ((outsP g ps).mergeSort leI).length := (List.length_mergeSort _).symm
    refine awp_seq ?_
    refine awp_region rfl ?_
    rw [hml]
    refine aops_run 1 (by simp only [fwA, seval] <;> rfl) ?_
    refine aops_call rfl rfl rfl en133 ((c133 Γ _ H.length H.length ((outsP g ps).mergeSort leI) (Nat.le_refl _) hb1 (by omega)).mono fun p H4 hp => ?_)
    obtain ⟨b2, rfl, hb2, hnb2, ht2, _⟩ := hp
    rw [List.take_left' rfl] at ht2
    refine aops_run 1 (by simp only [fwA, seval] <;> rfl) ?_
    have hH4 := take_pre' ht2
    generalize H4.drop H.length = L at hH4
    subst hH4
    obtain ⟨j, rfl⟩ : ∃ j, b2 = H.length + j := ⟨b2 - H.length, by omega⟩
    rw [List.getElem?_append_right (by omega), show H.length + j - H.length = j by omega] at hb2
    have hfold : cpt ((outsP g ps).mergeSort leI) ((outsP g ps).mergeSort leI).length = gath g ps := rfl
    rw [hfold] at hb2 ⊢
    refine awp_told (told_freezeAt H L j hb2 (flat_bd (fun _ => rfl) _)) ?_
    refine awp_ret ?_
    refine gives_end (.inl rfl) _ ?_
    have hl := flat_len I1_len (gath g ps)
    have hch := flat_chunk I1_len (gath g ps)
    simp only [fwA, seval, hl, hch]
    rfl
  simp only [hc, decide_true, ↓reduceIte]
  refine awp_skip ?_
  have hil : i < ps.length := by omega
  have ga : ps[i]? = some ps[i] := List.getElem?_eq_getElem hil
  obtain ⟨hfa, hfb⟩ := hf ps[i] (List.getElem_mem hil)
  have hacc := outsP_le g (ps.take i)
  have hnext := outsP_snoc g ps i _ ga
  rw [List.length_take] at hacc
  generalize ps[i] = p at ga hfa hfb hnext
  generalize outsP g (ps.take i) = acc at hacc hnext
  refine awp_seq ?_
  refine awp_block ?_
  refine awp_seq ?_
  refine awp_run rfl (by simp only [fwA, seval, gfw, bx, dx, ga] <;> rfl) ?_
  refine awp_seq ?_
  refine awp_run rfl (by simp only [fwA, seval, bx, dx] <;> rfl) ?_
  refine awp_block ?_
  refine awp_for [1, 5, 12, 13, 14, 22, 23, 24] (fun j : Nat => [.func (.func f) [] [], .row H.length 0 (acc ++ inn g p.a p.b j).length 1, .vec (ps.map Pr.enc) fl, .int .i64 (ps.length : Int), .int .i64 (i : Int), .vec [[.int .i64 p.a], [.int .i64 p.b]] true, .int .i64 2, .int .i64 (j : Int)])
    (fun j => H ++ [.row 1 (((acc ++ inn g p.a p.b j).map I1).flatten), .box p.enc]) (fun j => 2 - j) (fun j => j ≤ 2) 0 (by simp only [fwA, seval, gfw, inn, List.append_nil] <;> rfl) (by simp only [inn, List.append_nil, List.append_assoc]) (by omega) fun j hj => ?_
  refine awp_seq ?_
  refine awp_run rfl (by simp only [fwA, seval] <;> rfl) ?_
  refine awp_seq ?_
  refine awp_cond (by simp only [fwA, seval] <;> rfl) ?_
  obtain rfl | hlt : j = 2 ∨ j < 2 := by omega
  · have h2 : ¬ ((2 : Nat) : Int) < 2 := by omega
    simp only [h2, decide_false, Bool.false_eq_true, ↓reduceIte]
    refine awp_exit ?_
    refine awp_run rfl (by simp only [fwA, seval] <;> rfl) ?_
    refine ⟨i + 1, [.box p.enc], by omega, by omega, ?_, ?_, rfl, by simp⟩
    · rw [hnext]; simp only [fwA, seval, gfw, wrapS i (by omega), inn]
    · rw [hnext]; simp only [inn, List.append_assoc]; rfl
  have h2 : (j : Int) < 2 := by omega
  simp only [h2, decide_true, ↓reduceIte]
  refine awp_skip ?_
  obtain ⟨x, hx, hfx, hin⟩ : ∃ x, [[PV.int .i64 p.a], [PV.int .i64 p.b]][j]? = some [.int .i64 x] ∧ Gives Tryz.prog Γ f [.int .i64 x] (.tup [.int .i64 (g x).1, .bool (g x).2]) ∧ inn g p.a p.b (j + 1) = inn g p.a p.b j ++ outs g x := by
    obtain rfl | rfl : j = 0 ∨ j = 1 := by omega
    · exact ⟨p.a, rfl, hfa, rfl⟩
    · exact ⟨p.b, rfl, hfb, rfl⟩
  have hwj : IntKind.i64.wrap ((j : Int) + 1) = ((j + 1 : Nat) : Int) := wrapS j (by omega)
  have hinl := inn_le g p.a p.b j
  refine awp_seq ?_
  refine awp_block ?_
  refine awp_seq ?_
  refine awp_run rfl (by simp only [fwA, seval, gfw, bx, hx] <;> rfl) ?_
  refine awp_seq ?_
  refine awp_region rfl ?_
  refine aops_run 2 (by simp only [fwA, seval] <;> rfl) ?_
  refine aops_fn rfl rfl rfl he hfx ?_
  refine aops_run 5 (by simp only [fwA, seval] <;> rfl) ?_
  refine awp_seq ?_
  refine awp_run rfl (by simp only [fwA, seval] <;> rfl) ?_
  refine awp_cond (by simp only [fwA, seval] <;> rfl) ?_
  cases hg : (g x).2 with
  | false =>
    have ho : outs g x = [] := by unfold outs; rw [hg]; rfl
    rw [ho, List.append_nil] at hin
    simp only [Bool.false_eq_true, ↓reduceIte]
    refine awp_skip ?_
    refine awp_run rfl (by simp only [fwA, seval] <;> rfl) ?_
    refine ⟨j + 1, by omega, by omega, ?_, by rw [hin], rfl⟩
    rw [hin]; simp only [fwA, seval, gfw, hwj]
  | true =>
    have ho : outs g x = [(g x).1] := by unfold outs; rw [hg]; rfl
    rw [ho] at hin
    simp only [↓reduceIte]
    have hfl := flat_len I1_len (acc ++ inn g p.a p.b j)
    refine awp_region rfl ?_
    refine aops_run 3 (by simp only [fwA, seval, bx] <;> rfl) ?_
    refine aops_one rfl (os_appendR rfl un59 ti3 un59 (.inl ⟨_, rfl⟩) rfl (get_at0 H _) (by rw [hfl]; exact (Nat.zero_add _).symm) rfl (fun es f h e he => by
      simp only [fwA, seval, PV.vec.injEq] at h
      obtain ⟨rfl, rfl⟩ := h
      simp only [List.mem_singleton] at he
      subst he; rfl) rfl (by simp only [List.length_append]; show (_ + _ + 1) * 8 ≤ _; omega) (by simp only [List.length_append]; show _ + _ + 1 ≤ _; omega) ?_)
    refine aops_run 1 (by simp only [fwA, seval] <;> rfl) ?_
    refine awp_run rfl (by simp only [fwA, seval] <;> rfl) ?_
    have hap : acc ++ inn g p.a p.b (j + 1) = (acc ++ inn g p.a p.b j) ++ [(g x).1] := by rw [hin, List.append_assoc]
    refine ⟨j + 1, by omega, by omega, ?_, ?_, rfl⟩
    · rw [hap]
      generalize acc ++ inn g p.a p.b j = acc2
      simp only [fwA, seval, gfw, hwj, List.length_append]
      rfl
    · rw [hap]
      generalize acc ++ inn g p.a p.b j = acc2
      rw [List.map_append, List.flatten_append]
      simp [I1]
end Go.Proofs.YteicbhkimepbaaaGreatDoor
namespace Go.Proofs.YteicbhkimepbaaaGreatDoor
set_option linter.unusedVariables false
set_option linter.unusedSimpArgs false
set_option maxRecDepth 100000
open Go.RowKit Fw
section
variable {X : Type} [DecidableEq X]
theorem cpt_mem (l : List X) : ∀ i x, x ∈ cpt l i ↔ x ∈ l.take i
  | 0, x => by simp [cpt]
  | i + 1, x => by
    have ih := cpt_mem l i x
    cases h : l[i]? with
    | none =>
      have e : cpt l (i + 1) = cpt l i := by simp only [cpt, h]; rw [List.append_nil]
      rw [e, ih, List.take_add_one, h]; simp
    | some y =>
      by_cases hd : 0 < i ∧ l[i - 1]? = some y
      · rw [cpt_dup hd.1 h hd.2, ih, List.take_add_one, h]
        have hm : y ∈ l.take i := List.mem_of_getElem? (i := i - 1) (by rw [List.getElem?_take_of_lt (by omega)]; exact hd.2)
        simp only [Option.toList_some, List.mem_append, List.mem_singleton]
        exact ⟨.inl, fun h => h.elim id fun e => e ▸ hm⟩
      · rw [cpt_new h (fun h0 e => hd ⟨h0, e⟩), List.mem_append, ih, List.take_add_one, h, List.mem_append]
        simp
theorem cpt_rise {le : X → X → Prop} (anti : ∀ x y, le x y → le y x → x = y) (l : List X) (hl : l.Pairwise le) : ∀ i, (cpt l i).Pairwise fun x y => le x y ∧ x ≠ y
  | 0 => List.Pairwise.nil
  | i + 1 => by
    have ih := cpt_rise anti l hl i
    cases h : l[i]? with
    | none =>
      have e : cpt l (i + 1) = cpt l i := by simp only [cpt, h]; rw [List.append_nil]
      rw [e]; exact ih
    | some y =>
      by_cases hd : 0 < i ∧ l[i - 1]? = some y
      · rw [cpt_dup hd.1 h hd.2]; exact ih
      · rw [cpt_new h (fun h0 e => hd ⟨h0, e⟩)]
        refine List.pairwise_append.2 ⟨ih, List.pairwise_singleton _ _, fun x hx z hz => ?_⟩
        obtain rfl := List.mem_singleton.1 hz
        rw [cpt_mem] at hx
        obtain ⟨j, hj⟩ := List.getElem?_of_mem hx
        have hji : j < i := by have := (List.getElem?_eq_some_iff.1 hj).1; rw [List.length_take] at this; omega
        rw [List.getElem?_take_of_lt hji] at hj
        obtain ⟨hjl, rfl⟩ := List.getElem?_eq_some_iff.1 hj
        obtain ⟨hil, rfl⟩ := List.getElem?_eq_some_iff.1 h
        have hp := List.pairwise_iff_getElem.1 hl
        refine ⟨hp j i hjl hil hji, fun e => hd ⟨by omega, ?_⟩⟩
        rw [List.getElem?_eq_getElem (show i - 1 < l.length by omega)]
        congr 1
        by_cases hj1 : j = i - 1
        · subst hj1; exact e
        · exact anti _ _ (hp (i - 1) i (by omega) hil (by omega)) (e ▸ hp j (i - 1) hjl (by omega) (by omega))
omit [DecidableEq X] in
theorem rise_eq {lt : X → X → Prop} (asym : ∀ x y, lt x y → ¬ lt y x) : ∀ l k : List X, l.Pairwise lt → k.Pairwise lt → (∀ x, x ∈ l ↔ x ∈ k) → l = k
  | [], [], _, _, _ => rfl
  | [], y :: k, _, _, h => absurd ((h y).2 (by simp)) (by simp)
  | x :: l, [], _, _, h => absurd ((h x).1 (by simp)) (by simp)
  | x :: l, y :: k, hl, hk, h => by
    rw [List.pairwise_cons] at hl hk
    have irr : ∀ a, ¬ lt a a := fun a h => asym a a h h
    have hxy : x = y := by
      rcases List.mem_cons.1 ((h x).1 (by simp)) with e | hm
      · exact e
      · rcases List.mem_cons.1 ((h y).2 (by simp)) with e | hm2
        · exact e.symm
        · exact absurd (hk.1 x hm) (asym _ _ (hl.1 y hm2))
    subst hxy
    congr 1
    refine rise_eq asym l k hl.2 hk.2 fun z => ⟨fun hz => ?_, fun hz => ?_⟩
    · rcases List.mem_cons.1 ((h z).1 (by simp [hz])) with e | hm
      · exact absurd (e ▸ hl.1 z hz) (irr _)
      · exact hm
    · rcases List.mem_cons.1 ((h z).2 (by simp [hz])) with e | hm
      · exact absurd (e ▸ hk.1 z hz) (irr _)
      · exact hm
end
def ltP (x y : Pr) : Prop := x.a < y.a ∨ (x.a = y.a ∧ x.b < y.b)
theorem onceI_mem (l : List Int) (x : Int) : x ∈ onceI l ↔ x ∈ l := by
  unfold onceI
  rw [cpt_mem, List.take_length, (List.mergeSort_perm _ _).mem_iff]
theorem onceI_rise (l : List Int) : (onceI l).Pairwise (· < ·) := by
  unfold onceI
  refine (cpt_rise (le := fun x y : Int => leI x y = true) (fun x y h1 h2 => ?_) _ (List.pairwise_mergeSort (fun a b c h1 h2 => ?_) (fun a b => ?_) _) _).imp fun {x y} h => ?_
  · unfold leI at *; simp only [decide_eq_true_eq] at *; omega
  · unfold leI at *; simp only [decide_eq_true_eq] at *; omega
  · unfold leI; simp only [Bool.or_eq_true, decide_eq_true_eq]; omega
  · obtain ⟨h1, h2⟩ := h
    unfold leI at h1
    simp only [decide_eq_true_eq] at h1
    omega
theorem onceI_is {l k : List Int} (hk : k.Pairwise (· < ·)) (h : ∀ x, x ∈ k ↔ x ∈ l) : onceI l = k :=
  rise_eq (fun x y h1 h2 => by omega) _ _ (onceI_rise l) hk fun x => by rw [onceI_mem, h]
end Go.Proofs.YteicbhkimepbaaaGreatDoor
namespace Go.Proofs.YteicbhkimepbaaaGreatDoor
set_option linter.unusedVariables false
set_option linter.unusedSimpArgs false
set_option maxRecDepth 100000
open Go.RowKit Fw
theorem c88 (Γ : Nat → PV) (a : Int) : Gives Tryz.prog Γ 88 [.int .i64 a] (.tup [.int .i64 a, .bool (!decide (a < 0))]) := by
  refine fn_of_awp Tryz.func88 rfl (by simp [Tryz.f88]) rfl fun H => ?_
  refine awp_seq ?_
  refine awp_run rfl (by simp only [fwA, seval] <;> rfl) ?_
  refine awp_seq ?_
  refine awp_region rfl ?_
  refine aops_run 2 (by simp only [fwA, seval] <;> rfl) ?_
  refine aops_fn rfl rfl rfl en43 (c43 Γ _) ?_
  refine aops_run 3 (by simp only [fwA, seval] <;> rfl) ?_
  refine awp_ret ?_
  exact gives_end0 (.inl rfl) rfl
theorem c108 (Γ : Nat → PV) (a : Int) (ha : I64 a) : Gives Tryz.prog Γ 108 [.int .i64 a] (.tup [.int .i64 (pointOf a), .bool (decide (a < 0))]) := by
  refine fn_of_awp Tryz.func108 rfl (by simp [Tryz.f108]) rfl fun H => ?_
  refine awp_seq ?_
  refine awp_run rfl (by simp only [fwA, seval] <;> rfl) ?_
  refine awp_seq ?_
  refine awp_region rfl ?_
  refine aops_run 1 (by simp only [fwA, seval] <;> rfl) ?_
  refine aops_fn rfl rfl rfl en52 (c52 Γ _ ha) ?_
  refine aops_run 1 (by simp only [fwA, seval] <;> rfl) ?_
  refine aops_fn rfl rfl rfl en43 (c43 Γ _) ?_
  refine aops_run 2 (by simp only [fwA, seval] <;> rfl) ?_
  refine awp_ret ?_
  exact gives_end0 (.inl rfl) rfl
def gV (a : Int) : Int × Bool := (a, !decide (a < 0))
def gP (a : Int) : Int × Bool := (pointOf a, decide (a < 0))
def OkP (ps : List Pr) : Prop := ∀ p ∈ ps, I64 p.a ∧ I64 p.b
theorem c40 (Γ : Nat → PV) (ps : List Pr) (f : Bool) (hl : ps.length ≤ 100000000) : Gives Tryz.prog Γ 40 [.vec (ps.map Pr.enc) f] (.vec ((gath gV ps).map I1) false) := by
  refine fn_of_awp Tryz.func40 rfl (by simp [Tryz.f40]) rfl fun H => ?_
  refine awp_seq ?_
  refine awp_run rfl (by simp only [fwA, seval] <;> rfl) ?_
  refine awp_seq ?_
  refine awp_region rfl ?_
  refine aops_run 1 (by simp only [fwA, seval] <;> rfl) ?_
  refine aops_fn rfl rfl rfl en87 (c87 Γ 88 en88 gV ps f hl fun p _ => ⟨c88 Γ _, c88 Γ _⟩) ?_
  refine aops_run 1 (by simp only [fwA, seval] <;> rfl) ?_
  refine awp_ret ?_
  exact gives_end0 (.inl rfl) rfl
theorem c61 (Γ : Nat → PV) (ps : List Pr) (f : Bool) (hl : ps.length ≤ 100000000) (ho : OkP ps) : Gives Tryz.prog Γ 61 [.vec (ps.map Pr.enc) f] (.vec ((gath gP ps).map I1) false) := by
  refine fn_of_awp Tryz.func61 rfl (by simp [Tryz.f61]) rfl fun H => ?_
  refine awp_seq ?_
  refine awp_run rfl (by simp only [fwA, seval] <;> rfl) ?_
  refine awp_seq ?_
  refine awp_region rfl ?_
  refine aops_run 1 (by simp only [fwA, seval] <;> rfl) ?_
  refine aops_fn rfl rfl rfl en107 (c107 Γ 108 en108 gP ps f hl fun p hp => ⟨c108 Γ _ (ho p hp).1, c108 Γ _ (ho p hp).2⟩) ?_
  refine aops_run 1 (by simp only [fwA, seval] <;> rfl) ?_
  refine awp_ret ?_
  exact gives_end0 (.inl rfl) rfl
end Go.Proofs.YteicbhkimepbaaaGreatDoor
namespace Go.Proofs.YteicbhkimepbaaaGreatDoor
set_option linter.unusedVariables false
set_option linter.unusedSimpArgs false
set_option maxRecDepth 100000
open Go.RowKit Fw
theorem vars_mem (l : List Pr) (x : Int) : x ∈ gath gV l ↔ 0 ≤ x ∧ ∃ p ∈ l, x = p.a ∨ x = p.b := by
  unfold gath
  rw [onceI_mem]
  unfold outsP
  rw [List.mem_flatMap]
  have h1 : ∀ a, x ∈ outs gV a ↔ 0 ≤ x ∧ x = a := fun a => by
    unfold outs gV
    by_cases h : a < 0
    · simp [h]; omega
    · simp [h]; omega
  constructor
  · rintro ⟨p, hp, hx⟩
    rw [List.mem_append, h1, h1] at hx
    rcases hx with h | h
    · exact ⟨h.1, p, hp, .inl h.2⟩
    · exact ⟨h.1, p, hp, .inr h.2⟩
  · rintro ⟨h0, p, hp, hx⟩
    refine ⟨p, hp, ?_⟩
    rw [List.mem_append, h1, h1]
    rcases hx with h | h
    · exact .inl ⟨h0, h⟩
    · exact .inr ⟨h0, h⟩
theorem points_mem (l : List Pr) (x : Int) : x ∈ gath gP l ↔ 0 ≤ x ∧ ∃ p ∈ l, -1 - x = p.a ∨ -1 - x = p.b := by
  unfold gath
  rw [onceI_mem]
  unfold outsP
  rw [List.mem_flatMap]
  have h1 : ∀ a, x ∈ outs gP a ↔ 0 ≤ x ∧ -1 - x = a := fun a => by
    unfold outs gP pointOf
    by_cases h : a < 0
    · have h2 : ¬ 0 ≤ a := by omega
      simp [h, h2]; omega
    · simp [h]; omega
  constructor
  · rintro ⟨p, hp, hx⟩
    rw [List.mem_append, h1, h1] at hx
    rcases hx with h | h
    · exact ⟨h.1, p, hp, .inl h.2⟩
    · exact ⟨h.1, p, hp, .inr h.2⟩
  · rintro ⟨h0, p, hp, hx⟩
    refine ⟨p, hp, ?_⟩
    rw [List.mem_append, h1, h1]
    rcases hx with h | h
    · exact .inl ⟨h0, h⟩
    · exact .inr ⟨h0, h⟩
theorem once_le (l : List Int) : (onceI l).length ≤ l.length := by
  have := cpt_le (l.mergeSort leI) (l.mergeSort leI).length
  rw [List.length_mergeSort] at this
  unfold onceI
  rw [List.length_mergeSort]; exact this
theorem both_le (l : List Pr) : (gath gV l).length + (gath gP l).length ≤ 2 * l.length := by
  have h : (outsP gV l).length + (outsP gP l).length = 2 * l.length := by
    induction l with
    | nil => rfl
    | cons p l ih =>
      have h1 : ∀ a, (outs gV a).length + (outs gP a).length = 1 := fun a => by
        unfold outs gV gP
        by_cases h : a < 0 <;> simp [h]
      have ha := h1 p.a
      have hb := h1 p.b
      unfold outsP at ih ⊢
      simp only [List.flatMap_cons, List.length_append, List.length_cons]
      omega
  have h1 := once_le (outsP gV l)
  have h2 := once_le (outsP gP l)
  unfold gath
  omega
end Go.Proofs.YteicbhkimepbaaaGreatDoor
namespace Go.Proofs.YteicbhkimepbaaaGreatDoor
set_option linter.unusedVariables false
set_option linter.unusedSimpArgs false
set_option maxRecDepth 100000
open Go.RowKit Fw
def ptI (n : Nat) (p : Int) : Int := if ptB n p = true then p else -1
def valueV (ns : List (List UInt8)) (us : List Nat) (s : List So) (a : Int) : Int :=
  if a < 0 then ptI ns.length (pointOf a) else match s.find? (fun x => decide (x.v = a)) with | none => botV ns us | some x => ptI ns.length x.p
def knownB (ns : List (List UInt8)) (us : List Nat) (c : List Pr) : Bool := rightB ns us && (gath gP c).all fun p => ptB ns.length p
def solvesB (ns : List (List UInt8)) (us : List Nat) (c : List Pr) (s : List So) : Bool :=
  knownB ns us c && (s.all fun x => ptB ns.length x.p) && c.all fun p => leqB (min ns.length us.length) us (valueV ns us s p.a) (valueV ns us s p.b)
def sg (ns : List (List UInt8)) (us : List Nat) (s : List So) : Int → Nat := fun v => (valueV ns us s (if v < 0 then 0 else v)).toNat
theorem ptB_iff {n : Nat} {p : Int} : ptB n p = true ↔ 0 ≤ p ∧ p < n := by unfold ptB; simp
theorem known_spec {ns : List (List UInt8)} {us : List Nat} {c : List Pr} : knownB ns us c = true ↔ rightB ns us = true ∧ PtsOk us.length c := by
  unfold knownB
  rw [Bool.and_eq_true, List.all_eq_true]
  constructor
  · rintro ⟨h1, h2⟩
    obtain ⟨_, r2, _⟩ := right_spec h1
    refine ⟨h1, fun p hp => ⟨fun h => ?_, fun h => ?_⟩⟩
    · have := ptB_iff.1 (h2 (-1 - p.a) ((points_mem c _).2 ⟨by omega, p, hp, .inl (by omega)⟩)); omega
    · have := ptB_iff.1 (h2 (-1 - p.b) ((points_mem c _).2 ⟨by omega, p, hp, .inr (by omega)⟩)); omega
  · rintro ⟨h1, h2⟩
    obtain ⟨_, r2, _⟩ := right_spec h1
    refine ⟨h1, fun x hx => ?_⟩
    obtain ⟨h0, p, hp, hx⟩ := (points_mem c x).1 hx
    rw [ptB_iff]
    rcases hx with e | e
    · have := (h2 p hp).1 (by omega); omega
    · have := (h2 p hp).2 (by omega); omega
def solL (c : List Pr) (σ : Int → Nat) : List So := (gath gV c).map fun v => ⟨v, (σ v : Int)⟩
def IsLeast (ns : List (List UInt8)) (us : List Nat) (c : List Pr) (x : List So × Bool) : Prop :=
  (knownB ns us c = false ∧ x = ([], false)) ∨ (knownB ns us c = true ∧ ((∃ σ, SolS us.length (lq us) c σ ∧ Lows us.length (lq us) c σ ∧ x = (solL c σ, true)) ∨ ((∀ τ, ¬ SolS us.length (lq us) c τ) ∧ x = ([], false))))
theorem isLeast_uniq {ns : List (List UInt8)} {us : List Nat} {c : List Pr} {x y : List So × Bool} (h1 : IsLeast ns us c x) (h2 : IsLeast ns us c y) : x = y := by
  rcases h1 with ⟨a1, rfl⟩ | ⟨a1, h1⟩ <;> rcases h2 with ⟨a2, rfl⟩ | ⟨a2, h2⟩
  · rfl
  · rw [a1] at a2; cases a2
  · rw [a1] at a2; cases a2
  · obtain ⟨hR, hp⟩ := known_spec.1 a1
    obtain ⟨_, _, _, _, r5⟩ := right_spec hR
    rcases h1 with ⟨σ, b1, b2, rfl⟩ | ⟨b1, rfl⟩ <;> rcases h2 with ⟨τ, d1, d2, rfl⟩ | ⟨d1, rfl⟩
    · rw [least_uniq r5.toOrd b1 b2 d1 d2]
    · exact absurd b1 (d1 _)
    · exact absurd d1 (b1 _)
    · rfl
theorem isLeast_ex (ns : List (List UInt8)) (us : List Nat) (c : List Pr) : ∃ x, IsLeast ns us c x := by
  cases hk : knownB ns us c
  · exact ⟨_, .inl ⟨hk, rfl⟩⟩
  · obtain ⟨hR, hp⟩ := known_spec.1 hk
    obtain ⟨_, _, _, _, r5⟩ := right_spec hR
    obtain ⟨b, _, hb⟩ := bot_nat hR
    rcases least_ex r5 hp (vs := gath gV c) (fun p hp h0 => (vars_mem c _).2 ⟨h0, p, hp, .inr rfl⟩) _ (fun _ => b) (Nat.le_refl _) (low_bot fun _ => hb) with ⟨σ, h1, h2⟩ | h
    · exact ⟨_, .inr ⟨hk, .inl ⟨σ, h1, h2, rfl⟩⟩⟩
    · exact ⟨_, .inr ⟨hk, .inr ⟨h, rfl⟩⟩⟩
noncomputable def leastV (ns : List (List UInt8)) (us : List Nat) (c : List Pr) : List So × Bool := (isLeast_ex ns us c).choose
theorem leastV_is (ns : List (List UInt8)) (us : List Nat) (c : List Pr) : IsLeast ns us c (leastV ns us c) := (isLeast_ex ns us c).choose_spec
theorem leastV_eq {ns : List (List UInt8)} {us : List Nat} {c : List Pr} {x : List So × Bool} (h : IsLeast ns us c x) : leastV ns us c = x := isLeast_uniq (leastV_is ns us c) h
end Go.Proofs.YteicbhkimepbaaaGreatDoor
namespace Go.Proofs.YteicbhkimepbaaaGreatDoor
set_option linter.unusedVariables false
set_option linter.unusedSimpArgs false
set_option maxRecDepth 100000
open Go.RowKit Fw
variable {n : Nat} {r : Nat → Nat → Bool} {σ : Int → Nat}
def phi (n : Nat) (r : Nat → Nat → Bool) (c : List Pr) (σ : Int → Nat) : Nat := (c.map fun p => if p.a < 0 then 0 else rk n r (σ p.a)).sum
def fl (c : List Pr) (a : Int) : List Pr := c.filter fun p => decide (p.a = a)
theorem phi_le (n : Nat) (r : Nat → Nat → Bool) (σ : Int → Nat) : ∀ c : List Pr, phi n r c σ ≤ c.length * n
  | [] => by simp [phi]
  | p :: c => by
    have ih := phi_le n r σ c
    have h2 := rk_le n r (σ p.a)
    unfold phi at *
    rw [List.map_cons, List.sum_cons, List.length_cons, Nat.add_mul]
    split <;> omega
theorem phi_upd {b : Int} {j : Nat} (h : rk n r j < rk n r (σ b)) (h0 : 0 ≤ b) : ∀ c : List Pr, phi n r c (upd σ b j) + (fl c b).length ≤ phi n r c σ
  | [] => by simp [phi, fl]
  | p :: c => by
    have ih := phi_upd h h0 c
    unfold phi fl at *
    rw [List.map_cons, List.sum_cons, List.map_cons, List.sum_cons]
    by_cases e : p.a = b
    · have hu : upd σ b j p.a = j := by unfold upd; rw [if_pos e]
      rw [List.filter_cons_of_pos (by rw [decide_eq_true e]), List.length_cons, hu, if_neg (by omega), if_neg (by omega), e]
      omega
    · have hu : upd σ b j p.a = σ p.a := by unfold upd; rw [if_neg e]
      rw [List.filter_cons_of_neg (by rw [decide_eq_false e]; simp), hu]
      omega
theorem fl_mem {c : List Pr} {a : Int} {p : Pr} : p ∈ fl c a ↔ p ∈ c ∧ p.a = a := by unfold fl; simp
theorem fl_snoc (c : List Pr) (p : Pr) (a : Int) : fl (c ++ [p]) a = if p.a = a then fl c a ++ [p] else fl c a := by
  unfold fl
  rw [List.filter_append]
  split
  · rename_i h; rw [List.filter_cons_of_pos (by rw [decide_eq_true h])]; rfl
  · rename_i h; rw [List.filter_cons_of_neg (by rw [decide_eq_false h]; simp)]; simp
theorem work_step {c W : List Pr} {p : Pr} {d : Nat} {j : Nat} (hd : W[d]? = some p) (hin : ∀ q ∈ c, q ∈ W.drop d ∨ satP r σ q) (h0 : 0 ≤ p.b) (h : Ord n r) (hp : PtsOk n c) (hσ : ∀ v, σ v < n) (hpc : p ∈ c) (hj : IsJ n r (vl σ p.a) (σ p.b) j) (hne : p.a ≠ p.b) :
    ∀ q ∈ c, q ∈ (W ++ fl c p.b).drop (d + 1) ∨ satP r (upd σ p.b j) q := fun q hq => by
  have hdl := (List.getElem?_eq_some_iff.1 hd).1
  have hle : r (σ p.b) j = true := hj.le2 h
  rw [List.drop_append_of_le_length (by omega)]
  by_cases ea : q.a = p.b
  · exact .inl (List.mem_append_right _ (fl_mem.2 ⟨hq, ea⟩))
  have va : vl (upd σ p.b j) q.a = vl σ q.a := by
    by_cases h : q.a < 0
    · simp [vl, h]
    · simp [vl, upd, h, ea]
  rcases hin q hq with hw | hs
  · have e : W.drop d = p :: W.drop (d + 1) := by
      rw [List.drop_eq_getElem_cons hdl]
      congr 1
      exact (List.getElem?_eq_some_iff.1 hd).2
    rw [e] at hw
    rcases List.mem_cons.1 hw with rfl | hw
    · refine .inr ?_
      have vb : vl (upd σ q.b j) q.b = j := by unfold vl upd; rw [if_neg (by omega), if_pos rfl]
      unfold satP
      rw [va, vb]
      exact hj.le1 h
    · exact .inl (List.mem_append_left _ hw)
  · refine .inr ?_
    unfold satP at hs ⊢
    rw [va]
    by_cases eb : q.b = p.b
    · have vb : vl (upd σ p.b j) q.b = j := by unfold vl upd; rw [if_neg (by omega), if_pos eb]
      have vs : vl σ q.b = σ p.b := by unfold vl; rw [if_neg (by omega), eb]
      rw [vs] at hs
      rw [vb]
      exact h.trans _ _ _ (vl_lt hσ (hp q hq).1) (hσ _) hj.1 hs hle
    · have vb : vl (upd σ p.b j) q.b = vl σ q.b := by
        by_cases h : q.b < 0
        · simp [vl, h]
        · simp [vl, upd, h, eb]
      rw [vb]; exact hs
end Go.Proofs.YteicbhkimepbaaaGreatDoor
namespace Go.Proofs.YteicbhkimepbaaaGreatDoor
set_option linter.unusedVariables false
set_option linter.unusedSimpArgs false
set_option maxRecDepth 100000
open Go.RowKit Fw
def idxG {X : Type} (q : X → Bool) (l : List X) : Int := match l.findIdx? q with | some k => (k : Int) | none => -1
theorem idxG_none {X : Type} {q : X → Bool} {l : List X} (h : ∀ (j : Nat) y, j < l.length → l[j]? = some y → q y = false) : idxG q l = -1 := by
  unfold idxG
  have : l.findIdx? q = none := by
    rw [List.findIdx?_eq_none_iff]
    intro x hx
    obtain ⟨j, hj⟩ := List.getElem?_of_mem hx
    exact h j x (List.getElem?_eq_some_iff.1 hj).1 hj
  rw [this]
theorem idxG_some {X : Type} {q : X → Bool} {l : List X} {i : Nat} {x : X} (h : ∀ (j : Nat) y, j < i → l[j]? = some y → q y = false) (hx : l[i]? = some x) (hq : q x = true) : idxG q l = (i : Int) := by
  unfold idxG
  have : l.findIdx? q = some i := by
    rw [List.findIdx?_eq_some_iff_getElem]
    obtain ⟨h1, h2⟩ := List.getElem?_eq_some_iff.1 hx
    refine ⟨h1, by rw [h2]; exact hq, fun j hj => ?_⟩
    rw [h j l[j] hj (List.getElem?_eq_getElem _)]; simp
  rw [this]
theorem idxG_lt {X : Type} (q : X → Bool) (l : List X) : decide (0 ≤ idxG q l) = l.any q := by
  unfold idxG
  cases e : l.findIdx? q with
  | none =>
    rw [List.findIdx?_eq_none_iff] at e
    have : l.any q = false := by
      rw [List.any_eq_false]
      intro x hx; rw [e x hx]; simp
    rw [this]; decide
  | some k =>
    rw [List.findIdx?_eq_some_iff_getElem] at e
    obtain ⟨h1, h2, _⟩ := e
    have : l.any q = true := List.any_eq_true.2 ⟨_, List.getElem_mem h1, h2⟩
    rw [this]; exact decide_eq_true (by simp)
theorem c106 (Γ : Nat → PV) (f : Nat) (he : Enters Tryz.prog f) (caps : List PV) (q : Int → Bool) (us : List Int) (H : List Blk) (hf : ∀ x ∈ us, ACalls Tryz.prog Γ f (.int .i64 x :: caps) H (fun p H' => p = .bool (q x) ∧ H' = H)) :
    ACalls Tryz.prog Γ 106 [.vec (us.map I1) false, .func (.func f) [] caps] H (fun p H' => p = .int .i64 (idxG q us) ∧ H' = H) := by
  refine acalls_of_awp Tryz.func106 rfl (by simp [Tryz.f106]) fun hbd => ?_
  refine awp_vlen 0 rfl fun hsl => ?_
  rw [List.length_map] at hsl
  refine awp_seq ?_
  refine awp_run rfl (by simp only [fwA, seval] <;> rfl) ?_
  refine awp_seq ?_
  refine awp_seq ?_
  refine awp_run rfl (by simp only [fwA, seval, gfw, bx, dx, bitfw] <;> rfl) ?_
  refine awp_block ?_
  refine awp_for [0, 1, 7, 8] (fun i : Nat => [.vec (us.map I1) false, .func (.func f) [] caps, .int .i64 (us.length : Int), .int .i64 (i : Int)]) (fun _ => H) (fun i => us.length - i) (fun i => i ≤ us.length ∧ ∀ j y, j < i → us[j]? = some y → q y = false) 0 rfl rfl ⟨Nat.zero_le _, fun j y hj => by omega⟩ fun i hs => ?_
  obtain ⟨hil, hno⟩ := hs
  refine awp_seq ?_
  refine awp_run rfl (by simp only [fwA, seval, gfw, bx, dx, bitfw] <;> rfl) ?_
  refine awp_seq ?_
  refine awp_cond (by simp only [fwA, seval] <;> rfl) ?_
  by_cases hc : (i : Int) < us.length
  rotate_left
  · simp only [hc, decide_false, Bool.false_eq_true, ↓reduceIte]
    refine awp_exit ?_
    have e : i = us.length := by omega
    subst e
    refine awp_seq ?_
    refine awp_run rfl (by simp only [fwA, seval] <;> rfl) ?_
    refine awp_ret ?_
    exact calls_end0 (p := .int .i64 (idxG q us)) (.inl rfl) hbd (by rw [idxG_none hno]; rfl) rfl ⟨rfl, rfl⟩
  simp only [hc, decide_true, ↓reduceIte]
  refine awp_skip ?_
  have hill : i < us.length := by omega
  have ga : us[i]? = some us[i] := List.getElem?_eq_getElem hill
  have hfx := hf us[i] (List.getElem_mem hill)
  generalize us[i] = x at ga hfx
  have hwi : IntKind.i64.wrap ((i : Int) + 1) = ((i + 1 : Nat) : Int) := wrapS i (by omega)
  refine awp_seq ?_
  refine awp_block ?_
  refine awp_seq ?_
  refine awp_run rfl (by simp only [fwA, seval] <;> rfl) ?_
  refine awp_seq ?_
  refine awp_region rfl ?_
  refine aops_run 5 (by simp only [fwA, seval, gfw, bx, dx, bitfw, ga] <;> rfl) ?_
  refine aops_call rfl rfl rfl he (hfx.mono fun p H' hp => ?_)
  obtain ⟨rfl, e⟩ := hp
  rw [e]
  refine aops_end ?_
  refine awp_cond (by simp only [fwA, seval] <;> rfl) ?_
  cases hq : q x
  · simp only [Bool.false_eq_true, ↓reduceIte]
    refine awp_skip ?_
    refine awp_run rfl (by simp only [fwA, seval] <;> rfl) ?_
    refine ⟨i + 1, by omega, ⟨by omega, fun j y hj hy => ?_⟩, ?_, rfl, rfl⟩
    · by_cases hji : j = i
      · subst hji; rw [ga] at hy; cases hy; exact hq
      · exact hno j y (by omega) hy
    · simp only [fwA, seval, gfw, hwi]
  · simp only [↓reduceIte]
    refine awp_seq ?_
    refine awp_run rfl (by simp only [fwA, seval] <;> rfl) ?_
    refine awp_ret ?_
    simp only [Post.block, Post.then]
    exact calls_end0 (p := .int .i64 (idxG q us)) (.inl rfl) hbd (by rw [idxG_some hno ga hq]; rfl) rfl ⟨rfl, rfl⟩
theorem c60 (Γ : Nat → PV) (f : Nat) (he : Enters Tryz.prog f) (caps : List PV) (q : Int → Bool) (us : List Int) (H : List Blk) (hf : ∀ x ∈ us, ACalls Tryz.prog Γ f (.int .i64 x :: caps) H (fun p H' => p = .bool (q x) ∧ H' = H)) :
    ACalls Tryz.prog Γ 60 [.vec (us.map I1) false, .func (.func f) [] caps] H (fun p H' => p = .bool (us.any q) ∧ H' = H) := by
  refine acalls_of_awp Tryz.func60 rfl (by simp [Tryz.f60]) fun hbd => ?_
  refine awp_seq ?_
  refine awp_run rfl (by simp only [fwA, seval] <;> rfl) ?_
  refine awp_seq ?_
  refine awp_region rfl ?_
  refine aops_run 2 (by simp only [fwA, seval, gfw, bx, dx, bitfw] <;> rfl) ?_
  refine aops_call rfl rfl rfl en106 ((c106 Γ f he caps q us H hf).mono fun p H' hp => ?_)
  obtain ⟨rfl, rfl⟩ := hp
  refine aops_run 2 (by simp only [fwA, seval, gfw, bx, dx, bitfw] <;> rfl) ?_
  refine aops_end ?_
  refine awp_ret ?_
  exact calls_end0 (p := .bool (us.any q)) (.inl rfl) hbd (by rw [← idxG_lt]; rfl) rfl ⟨rfl, rfl⟩
theorem c67 (Γ : Nat → PV) (f : Nat) (he : Enters Tryz.prog f) (caps : List PV) (q : So → Bool) (us : List So) (H : List Blk) (hf : ∀ x ∈ us, ACalls Tryz.prog Γ f (.agg x.enc :: caps) H (fun p H' => p = .bool (q x) ∧ H' = H)) :
    ACalls Tryz.prog Γ 67 [.vec (us.map So.enc) false, .func (.func f) [] caps] H (fun p H' => p = .int .i64 (idxG q us) ∧ H' = H) := by
  refine acalls_of_awp Tryz.func67 rfl (by simp [Tryz.f67]) fun hbd => ?_
  refine awp_vlen 0 rfl fun hsl => ?_
  rw [List.length_map] at hsl
  refine awp_seq ?_
  refine awp_run rfl (by simp only [fwA, seval] <;> rfl) ?_
  refine awp_seq ?_
  refine awp_seq ?_
  refine awp_run rfl (by simp only [fwA, seval, gfw, bx, dx, bitfw] <;> rfl) ?_
  refine awp_block ?_
  refine awp_for [0, 1, 7, 8] (fun i : Nat => [.vec (us.map So.enc) false, .func (.func f) [] caps, .int .i64 (us.length : Int), .int .i64 (i : Int)]) (fun _ => H) (fun i => us.length - i) (fun i => i ≤ us.length ∧ ∀ j y, j < i → us[j]? = some y → q y = false) 0 rfl rfl ⟨Nat.zero_le _, fun j y hj => by omega⟩ fun i hs => ?_
  obtain ⟨hil, hno⟩ := hs
  refine awp_seq ?_
  refine awp_run rfl (by simp only [fwA, seval, gfw, bx, dx, bitfw] <;> rfl) ?_
  refine awp_seq ?_
  refine awp_cond (by simp only [fwA, seval] <;> rfl) ?_
  by_cases hc : (i : Int) < us.length
  rotate_left
  · simp only [hc, decide_false, Bool.false_eq_true, ↓reduceIte]
    refine awp_exit ?_
    have e : i = us.length := by omega
    subst e
    refine awp_seq ?_
    refine awp_run rfl (by simp only [fwA, seval] <;> rfl) ?_
    refine awp_ret ?_
    exact calls_end0 (p := .int .i64 (idxG q us)) (.inl rfl) hbd (by rw [idxG_none hno]; rfl) rfl ⟨rfl, rfl⟩
  simp only [hc, decide_true, ↓reduceIte]
  refine awp_skip ?_
  have hill : i < us.length := by omega
  have ga : us[i]? = some us[i] := List.getElem?_eq_getElem hill
  have hfx := hf us[i] (List.getElem_mem hill)
  generalize us[i] = x at ga hfx
  have hwi : IntKind.i64.wrap ((i : Int) + 1) = ((i + 1 : Nat) : Int) := wrapS i (by omega)
  refine awp_seq ?_
  refine awp_block ?_
  refine awp_seq ?_
  refine awp_run rfl (by simp only [fwA, seval] <;> rfl) ?_
  refine awp_seq ?_
  refine awp_region rfl ?_
  refine aops_run 5 (by simp only [fwA, seval, gfw, bx, dx, bitfw, ga] <;> rfl) ?_
  refine aops_call rfl rfl rfl he (hfx.mono fun p H' hp => ?_)
  obtain ⟨rfl, e⟩ := hp
  rw [e]
  refine aops_end ?_
  refine awp_cond (by simp only [fwA, seval] <;> rfl) ?_
  cases hq : q x
  · simp only [Bool.false_eq_true, ↓reduceIte]
    refine awp_skip ?_
    refine awp_run rfl (by simp only [fwA, seval] <;> rfl) ?_
    refine ⟨i + 1, by omega, ⟨by omega, fun j y hj hy => ?_⟩, ?_, rfl, rfl⟩
    · by_cases hji : j = i
      · subst hji; rw [ga] at hy; cases hy; exact hq
      · exact hno j y (by omega) hy
    · simp only [fwA, seval, gfw, hwi]
  · simp only [↓reduceIte]
    refine awp_seq ?_
    refine awp_run rfl (by simp only [fwA, seval] <;> rfl) ?_
    refine awp_ret ?_
    simp only [Post.block, Post.then]
    exact calls_end0 (p := .int .i64 (idxG q us)) (.inl rfl) hbd (by rw [idxG_some hno ga hq]; rfl) rfl ⟨rfl, rfl⟩
theorem c69 (Γ : Nat → PV) (f : Nat) (he : Enters Tryz.prog f) (caps : List PV) (q : So → Bool) (us : List So) (H : List Blk) (hf : ∀ x ∈ us, ACalls Tryz.prog Γ f (.agg x.enc :: caps) H (fun p H' => p = .bool (q x) ∧ H' = H)) :
    ACalls Tryz.prog Γ 69 [.vec (us.map So.enc) false, .func (.func f) [] caps] H (fun p H' => p = .bool (us.any q) ∧ H' = H) := by
  refine acalls_of_awp Tryz.func69 rfl (by simp [Tryz.f69]) fun hbd => ?_
  refine awp_seq ?_
  refine awp_run rfl (by simp only [fwA, seval] <;> rfl) ?_
  refine awp_seq ?_
  refine awp_region rfl ?_
  refine aops_run 2 (by simp only [fwA, seval, gfw, bx, dx, bitfw] <;> rfl) ?_
  refine aops_call rfl rfl rfl en67 ((c67 Γ f he caps q us H hf).mono fun p H' hp => ?_)
  obtain ⟨rfl, rfl⟩ := hp
  refine aops_run 2 (by simp only [fwA, seval, gfw, bx, dx, bitfw] <;> rfl) ?_
  refine aops_end ?_
  refine awp_ret ?_
  exact calls_end0 (p := .bool (us.any q)) (.inl rfl) hbd (by rw [← idxG_lt]; rfl) rfl ⟨rfl, rfl⟩
theorem c113 (Γ : Nat → PV) (f : Nat) (he : Enters Tryz.prog f) (caps : List PV) (q : Pr → Bool) (us : List Pr) (H : List Blk) (hf : ∀ x ∈ us, ACalls Tryz.prog Γ f (.agg x.enc :: caps) H (fun p H' => p = .bool (q x) ∧ H' = H)) :
    ACalls Tryz.prog Γ 113 [.vec (us.map Pr.enc) false, .func (.func f) [] caps] H (fun p H' => p = .int .i64 (idxG q us) ∧ H' = H) := by
  refine acalls_of_awp Tryz.func113 rfl (by simp [Tryz.f113]) fun hbd => ?_
  refine awp_vlen 0 rfl fun hsl => ?_
  rw [List.length_map] at hsl
  refine awp_seq ?_
  refine awp_run rfl (by simp only [fwA, seval] <;> rfl) ?_
  refine awp_seq ?_
  refine awp_seq ?_
  refine awp_run rfl (by simp only [fwA, seval, gfw, bx, dx, bitfw] <;> rfl) ?_
  refine awp_block ?_
  refine awp_for [0, 1, 7, 8] (fun i : Nat => [.vec (us.map Pr.enc) false, .func (.func f) [] caps, .int .i64 (us.length : Int), .int .i64 (i : Int)]) (fun _ => H) (fun i => us.length - i) (fun i => i ≤ us.length ∧ ∀ j y, j < i → us[j]? = some y → q y = false) 0 rfl rfl ⟨Nat.zero_le _, fun j y hj => by omega⟩ fun i hs => ?_
  obtain ⟨hil, hno⟩ := hs
  refine awp_seq ?_
  refine awp_run rfl (by simp only [fwA, seval, gfw, bx, dx, bitfw] <;> rfl) ?_
  refine awp_seq ?_
  refine awp_cond (by simp only [fwA, seval] <;> rfl) ?_
  by_cases hc : (i : Int) < us.length
  rotate_left
  · simp only [hc, decide_false, Bool.false_eq_true, ↓reduceIte]
    refine awp_exit ?_
    have e : i = us.length := by omega
    subst e
    refine awp_seq ?_
    refine awp_run rfl (by simp only [fwA, seval] <;> rfl) ?_
    refine awp_ret ?_
    exact calls_end0 (p := .int .i64 (idxG q us)) (.inl rfl) hbd (by rw [idxG_none hno]; rfl) rfl ⟨rfl, rfl⟩
  simp only [hc, decide_true, ↓reduceIte]
  refine awp_skip ?_
  have hill : i < us.length := by omega
  have ga : us[i]? = some us[i] := List.getElem?_eq_getElem hill
  have hfx := hf us[i] (List.getElem_mem hill)
  generalize us[i] = x at ga hfx
  have hwi : IntKind.i64.wrap ((i : Int) + 1) = ((i + 1 : Nat) : Int) := wrapS i (by omega)
  refine awp_seq ?_
  refine awp_block ?_
  refine awp_seq ?_
  refine awp_run rfl (by simp only [fwA, seval] <;> rfl) ?_
  refine awp_seq ?_
  refine awp_region rfl ?_
  refine aops_run 5 (by simp only [fwA, seval, gfw, bx, dx, bitfw, ga] <;> rfl) ?_
  refine aops_call rfl rfl rfl he (hfx.mono fun p H' hp => ?_)
  obtain ⟨rfl, e⟩ := hp
  rw [e]
  refine aops_end ?_
  refine awp_cond (by simp only [fwA, seval] <;> rfl) ?_
  cases hq : q x
  · simp only [Bool.false_eq_true, ↓reduceIte]
    refine awp_skip ?_
    refine awp_run rfl (by simp only [fwA, seval] <;> rfl) ?_
    refine ⟨i + 1, by omega, ⟨by omega, fun j y hj hy => ?_⟩, ?_, rfl, rfl⟩
    · by_cases hji : j = i
      · subst hji; rw [ga] at hy; cases hy; exact hq
      · exact hno j y (by omega) hy
    · simp only [fwA, seval, gfw, hwi]
  · simp only [↓reduceIte]
    refine awp_seq ?_
    refine awp_run rfl (by simp only [fwA, seval] <;> rfl) ?_
    refine awp_ret ?_
    simp only [Post.block, Post.then]
    exact calls_end0 (p := .int .i64 (idxG q us)) (.inl rfl) hbd (by rw [idxG_some hno ga hq]; rfl) rfl ⟨rfl, rfl⟩
theorem c71 (Γ : Nat → PV) (f : Nat) (he : Enters Tryz.prog f) (caps : List PV) (q : Pr → Bool) (us : List Pr) (H : List Blk) (hf : ∀ x ∈ us, ACalls Tryz.prog Γ f (.agg x.enc :: caps) H (fun p H' => p = .bool (q x) ∧ H' = H)) :
    ACalls Tryz.prog Γ 71 [.vec (us.map Pr.enc) false, .func (.func f) [] caps] H (fun p H' => p = .bool (us.any q) ∧ H' = H) := by
  refine acalls_of_awp Tryz.func71 rfl (by simp [Tryz.f71]) fun hbd => ?_
  refine awp_seq ?_
  refine awp_run rfl (by simp only [fwA, seval] <;> rfl) ?_
  refine awp_seq ?_
  refine awp_region rfl ?_
  refine aops_run 2 (by simp only [fwA, seval, gfw, bx, dx, bitfw] <;> rfl) ?_
  refine aops_call rfl rfl rfl en113 ((c113 Γ f he caps q us H hf).mono fun p H' hp => ?_)
  obtain ⟨rfl, rfl⟩ := hp
  refine aops_run 2 (by simp only [fwA, seval, gfw, bx, dx, bitfw] <;> rfl) ?_
  refine aops_end ?_
  refine awp_ret ?_
  exact calls_end0 (p := .bool (us.any q)) (.inl rfl) hbd (by rw [← idxG_lt]; rfl) rfl ⟨rfl, rfl⟩
theorem c63 (Γ : Nat → PV) (ns : List (List UInt8)) (us : List Nat) (p : Int) : Gives Tryz.prog Γ 63 [.agg [.vec (ns.map S1) false, .vec (us.map U1) false], .int .i64 p] (.bool (ptB ns.length p)) := by
  refine fn_of_awp Tryz.func63 rfl (by simp [Tryz.f63]) rfl fun H => ?_
  refine awp_seq ?_
  refine awp_run rfl (by simp only [fwA, seval] <;> rfl) ?_
  refine awp_seq ?_
  unfold ptB
  by_cases h : (0 : Int) ≤ p
  · refine awp_run rfl (by simp only [fwA, seval, gfw, bx, dx, bitfw, h] <;> rfl) ?_
    refine awp_ret ?_
    exact gives_end (.inl rfl) _ (by rw [decide_eq_true h, Bool.true_and]; rfl)
  · refine awp_run rfl (by simp only [fwA, seval, gfw, bx, dx, bitfw, h] <;> rfl) ?_
    refine awp_ret ?_
    exact gives_end (.inl rfl) _ (by rw [decide_eq_false h, Bool.false_and]; rfl)
end Go.Proofs.YteicbhkimepbaaaGreatDoor
namespace Go.Proofs.YteicbhkimepbaaaGreatDoor
set_option linter.unusedVariables false
set_option linter.unusedSimpArgs false
set_option maxRecDepth 100000
open Go.RowKit Fw
theorem c62 (Γ : Nat → PV) (ns : List (List UInt8)) (us : List Nat) (p : Int) (H : List Blk) (b : Nat) (hb : H[b]? = some (.box [.vec (ns.map S1) false, .vec (us.map U1) false])) :
    ACalls Tryz.prog Γ 62 [.int .i64 p, .ptr b 0] H (fun q H' => q = .bool (!ptB ns.length p) ∧ H' = H) := by
  have h30 := c63 Γ ns us p
  refine acalls_of_awp Tryz.func62 rfl (by simp [Tryz.f62]) fun hbd => ?_
  refine awp_seq ?_
  refine awp_run rfl (by simp only [fwA, seval] <;> rfl) ?_
  refine awp_seq ?_
  refine awp_region rfl ?_
  refine aops_run 2 (by simp only [fwA, seval, gfw, bx, dx, bitfw, hb] <;> rfl) ?_
  refine aops_fn rfl rfl rfl en63 h30 ?_
  refine aops_run 2 (by simp only [fwA, seval, gfw, bx, dx, bitfw, hb] <;> rfl) ?_
  refine aops_end ?_
  refine awp_ret ?_
  exact calls_end0 (p := .bool (!ptB ns.length p)) (.inl rfl) hbd rfl rfl ⟨rfl, rfl⟩
theorem any_all {X : Type} (l : List X) (q : X → Bool) : (l.any fun x => !q x) = !l.all q := by rw [List.not_all_eq_any_not]
theorem c17 (Γ : Nat → PV) (hΓ : Tab64 Γ) (ns : List (List UInt8)) (us : List Nat) (hw : W64 us) (c : List Pr) (hl : c.length ≤ 100000000) (ho : OkP c) : Gives Tryz.prog Γ 17 [.agg [.vec (ns.map S1) false, .vec (us.map U1) false], .vec (c.map Pr.enc) false] (.bool (knownB ns us c)) := by
  have h38 := c59 Γ hΓ ns us hw
  have h45 := c61 Γ c false hl ho
  refine fn_of_awp Tryz.func17 rfl (by simp [Tryz.f17]) rfl fun H => ?_
  refine awp_bd fun hbd0 => ?_
  refine awp_seq ?_
  refine awp_run rfl (by simp only [fwA, seval] <;> rfl) ?_
  have g0 : (H ++ [Blk.box [.vec (ns.map S1) false, .vec (us.map U1) false]])[H.length]? = some (.box [.vec (ns.map S1) false, .vec (us.map U1) false]) := by rw [Fw.get_at0]; rfl
  generalize hK : H ++ [Blk.box [.vec (ns.map S1) false, .vec (us.map U1) false]] = K at g0 ⊢
  unfold knownB
  have h44 := c60 Γ 62 en62 [.ptr H.length 0] (fun x => !ptB ns.length x) (gath gP c) K (fun x hx => c62 Γ ns us x K H.length g0)
  rw [any_all] at h44
  refine awp_seq ?_
  cases hR : rightB ns us
  · rw [hR] at h38
    refine awp_region rfl ?_
    refine aops_run 1 (by simp only [fwA, seval, gfw, bx, dx, bitfw, g0] <;> rfl) ?_
    refine aops_fn rfl rfl rfl en59 h38 ?_
    refine aops_run 8 (by simp only [fwA, seval, gfw, bx, dx, bitfw, g0] <;> rfl) ?_
    refine aops_end ?_
    refine awp_ret ?_
    subst hK
    exact gives_end (.inl rfl) _ rfl
  rw [hR] at h38
  refine awp_region rfl ?_
  refine aops_run 1 (by simp only [fwA, seval, gfw, bx, dx, bitfw, g0] <;> rfl) ?_
  refine aops_fn rfl rfl rfl en59 h38 ?_
  refine aops_run 2 (by simp only [fwA, seval, gfw, bx, dx, bitfw] <;> rfl) ?_
  refine aops_fnIf rfl rfl rfl rfl rfl en61 h45 ?_
  refine aops_run 1 (by simp only [fwA, seval, gfw, bx, dx, bitfw] <;> rfl) ?_
  refine aops_if rfl rfl rfl (os_call rfl rfl en60 (h44.mono fun p H' hp => ?_))
  obtain ⟨rfl, e⟩ := hp
  rw [e]
  refine aops_run 3 (by simp only [fwA, seval, gfw, bx, dx, bitfw] <;> rfl) ?_
  refine aops_end ?_
  refine awp_ret ?_
  subst hK
  exact gives_end (.inl rfl) _ (by simp [ares, aresL, ares1, Tryz.f17, alook, aput])
theorem c68 (Γ : Nat → PV) (a : Int) (x : So) (H : List Blk) (b : Nat) (hb : H[b]? = some (.box [.int .i64 a])) :
    ACalls Tryz.prog Γ 68 [.agg x.enc, .ptr b 0] H (fun q H' => q = .bool (decide (x.v = a)) ∧ H' = H) := by
  have hbl := (List.getElem?_eq_some_iff.1 hb).1
  have hb1 : ∀ L, (H ++ L)[b]? = some (.box [.int .i64 a]) := fun L => by rw [List.getElem?_append_left hbl]; exact hb
  refine acalls_of_awp Tryz.func68 rfl (by simp [Tryz.f68]) fun hbd => ?_
  refine awp_seq ?_
  refine awp_run rfl (by simp only [fwA, seval] <;> rfl) ?_
  refine awp_seq ?_
  refine awp_run rfl (by simp only [fwA, seval, gfw, bx, dx, bitfw, hb1] <;> rfl) ?_
  refine awp_ret ?_
  exact calls_end (p := .bool (decide (x.v = a))) [.box x.enc] (.inl rfl) hbd rfl rfl ⟨rfl, rfl⟩
theorem find_idx {X : Type} (q : X → Bool) (l : List X) : (idxG q l < 0 ∧ l.find? q = none) ∨ ∃ (k : Nat) (x : X), idxG q l = (k : Int) ∧ l[k]? = some x ∧ l.find? q = some x := by
  cases e : l.findIdx? q with
  | none =>
    refine .inl ⟨by unfold idxG; rw [e]; decide, ?_⟩
    rw [List.findIdx?_eq_none_iff] at e
    rw [List.find?_eq_none]
    intro x hx; rw [e x hx]; simp
  | some k =>
    have e' := e
    rw [List.findIdx?_eq_some_iff_getElem] at e
    obtain ⟨h1, h2, h3⟩ := e
    refine .inr ⟨k, l[k], by unfold idxG; rw [e'], List.getElem?_eq_getElem h1, ?_⟩
    rw [List.find?_eq_some_iff_getElem]
    refine ⟨h2, k, h1, rfl, fun j hj => ?_⟩
    have := h3 j hj
    simpa using this
theorem c19 (Γ : Nat → PV) (hΓ : Tab64 Γ) (ns : List (List UInt8)) (us : List Nat) (hw : W64 us) (s : List So) (a : Int) (ha : I64 a) : Gives Tryz.prog Γ 19 [.agg [.vec (ns.map S1) false, .vec (us.map U1) false], .vec (s.map So.enc) false, .int .i64 a] (.int .i64 (valueV ns us s a)) := by
  have h25 := c52 Γ a ha
  have h15 := c43 Γ a
  have h19 := c50 Γ hΓ ns us hw
  refine fn_of_awp Tryz.func19 rfl (by simp [Tryz.f19]) rfl fun H => ?_
  refine awp_bd fun hbd0 => ?_
  refine awp_seq ?_
  refine awp_run rfl (by simp only [fwA, seval] <;> rfl) ?_
  have g0 : (H ++ [Blk.box [.vec (ns.map S1) false, .vec (us.map U1) false], .box [.int .i64 a]])[H.length]? = some (.box [.vec (ns.map S1) false, .vec (us.map U1) false]) := by rw [Fw.get_at0]; rfl
  have g1 : (H ++ [Blk.box [.vec (ns.map S1) false, .vec (us.map U1) false], .box [.int .i64 a]])[H.length + 1]? = some (.box [.int .i64 a]) := by rw [Fw.get_at]; rfl
  have hpre : ∃ L, H ++ [Blk.box [.vec (ns.map S1) false, .vec (us.map U1) false], .box [.int .i64 a]] = H ++ L := ⟨_, rfl⟩
  generalize hK : H ++ [Blk.box [.vec (ns.map S1) false, .vec (us.map U1) false], .box [.int .i64 a]] = K at g0 g1 hpre ⊢
  have hend : ∀ (A' : List (Nat × PV)) (v : Int), alook A' 6 = .int .i64 v → ((Exit.ret = .ret ∨ Exit.ret = .normal) ∧ ([] : List Nat).Nodup ∧ (∀ b ∈ ([] : List Nat), K[b]? = some .dfr ∧ H.length ≤ b) ∧ ares Tryz.prog Γ A' K Tryz.f19.results.toList = some (.int .i64 v) ∧ ∃ L', K = H ++ L') := fun A' v hv => by
    obtain ⟨L, rfl⟩ := hpre
    exact gives_end (.inl rfl) _ (by simp [ares, aresL, ares1, Tryz.f19, hv])
  refine awp_seq ?_
  refine awp_region rfl ?_
  refine aops_run 1 (by simp only [fwA, seval, gfw, bx, dx, bitfw, g1] <;> rfl) ?_
  refine aops_fn rfl rfl rfl en52 h25 ?_
  refine aops_run 1 (by simp only [fwA, seval, gfw, bx, dx, bitfw, g1] <;> rfl) ?_
  refine aops_end ?_
  refine awp_seq ?_
  refine awp_seq ?_
  refine awp_region rfl ?_
  refine aops_run 1 (by simp only [fwA, seval, gfw, bx, dx, bitfw, g1] <;> rfl) ?_
  refine aops_fn rfl rfl rfl en43 h15 ?_
  refine aops_run 1 (by simp only [fwA, seval, gfw, bx, dx, bitfw, g1] <;> rfl) ?_
  refine aops_end ?_
  unfold valueV ptI
  by_cases h0 : a < 0
  · have h30 := c63 Γ ns us (pointOf a)
    rw [if_pos h0]
    rw [decide_eq_true h0]
    refine awp_cond (b := false) (by simp [alook, aput, ev]) (awp_skip ?_)
    refine awp_seq ?_
    refine awp_seq ?_
    cases hp : ptB ns.length (pointOf a)
    · rw [hp] at h30
      refine awp_region rfl ?_
      refine aops_run 2 (by simp only [fwA, seval, gfw, bx, dx, bitfw, g0] <;> rfl) ?_
      refine aops_fn rfl rfl rfl en63 h30 ?_
      refine aops_run 1 (by simp only [fwA, seval, gfw, bx, dx, bitfw, g0] <;> rfl) ?_
      refine aops_end ?_
      refine awp_cond (b := true) (by simp [alook, aput, ev]) ?_
      refine awp_seq ?_
      refine awp_run rfl (by simp only [fwA, seval] <;> rfl) ?_
      refine awp_ret ?_
      exact hend _ _ rfl
    · rw [hp] at h30
      refine awp_region rfl ?_
      refine aops_run 2 (by simp only [fwA, seval, gfw, bx, dx, bitfw, g0] <;> rfl) ?_
      refine aops_fn rfl rfl rfl en63 h30 ?_
      refine aops_run 1 (by simp only [fwA, seval, gfw, bx, dx, bitfw, g0] <;> rfl) ?_
      refine aops_end ?_
      refine awp_cond (b := false) (by simp [alook, aput, ev]) (awp_skip ?_)
      refine awp_seq ?_
      refine awp_run rfl (by simp only [fwA, seval] <;> rfl) ?_
      refine awp_ret ?_
      exact hend _ _ rfl
  rw [if_neg h0]
  rw [decide_eq_false h0]
  refine awp_cond (b := true) (by simp [alook, aput, ev]) ?_
  have h34 := c67 Γ 68 en68 [.ptr (H.length + 1) 0] (fun x => decide (x.v = a)) s K (fun x hx => c68 Γ a x K (H.length + 1) g1)
  refine awp_seq ?_
  refine awp_region rfl ?_
  refine aops_run 2 (by simp only [fwA, seval, gfw, bx, dx, bitfw] <;> rfl) ?_
  refine aops_call rfl rfl rfl en67 (h34.mono fun p H' hp => ?_)
  obtain ⟨rfl, e⟩ := hp
  rw [e]
  refine aops_run 1 (by simp only [fwA, seval, gfw, bx, dx, bitfw] <;> rfl) ?_
  refine aops_end ?_
  rcases find_idx (fun x : So => decide (x.v = a)) s with ⟨f1, f2⟩ | ⟨k, x, f1, f2, f3⟩
  · rw [f2]
    refine awp_seq ?_
    refine awp_seq ?_
    refine awp_run rfl (by simp only [fwA, seval, gfw, bx, dx, bitfw, f1] <;> rfl) ?_
    refine awp_cond (b := true) (by simp [alook, aput, ev]) ?_
    refine awp_seq ?_
    refine awp_region rfl ?_
    refine aops_run 1 (by simp only [fwA, seval, gfw, bx, dx, bitfw, g0] <;> rfl) ?_
    refine aops_fn rfl rfl rfl en50 h19 ?_
    refine aops_run 1 (by simp only [fwA, seval, gfw, bx, dx, bitfw, g0] <;> rfl) ?_
    refine aops_end ?_
    refine awp_ret ?_
    exact hend _ _ rfl
  · rw [f3]
    have hneg : ¬ ((k : Int) < 0) := by omega
    have h30 := c63 Γ ns us x.p
    refine awp_seq ?_
    refine awp_seq ?_
    refine awp_run rfl (by simp only [fwA, seval, gfw, bx, dx, bitfw, f1, hneg] <;> rfl) ?_
    refine awp_cond (b := false) (by simp [alook, aput, ev]) (awp_skip ?_)
    refine awp_run rfl (by simp only [fwA, seval, gfw, bx, dx, bitfw, f1, f2] <;> rfl) ?_
    refine awp_seq ?_
    refine awp_seq ?_
    cases hp : ptB ns.length x.p
    · rw [hp] at h30
      refine awp_region rfl ?_
      refine aops_run 2 (by simp only [fwA, seval, gfw, bx, dx, bitfw, g0] <;> rfl) ?_
      refine aops_fn rfl rfl rfl en63 h30 ?_
      refine aops_run 1 (by simp only [fwA, seval, gfw, bx, dx, bitfw, g0] <;> rfl) ?_
      refine aops_end ?_
      refine awp_cond (b := true) (by simp [alook, aput, ev]) ?_
      refine awp_seq ?_
      refine awp_run rfl (by simp only [fwA, seval] <;> rfl) ?_
      refine awp_ret ?_
      simp only [hp, Bool.false_eq_true, ↓reduceIte]
      exact hend _ _ rfl
    · rw [hp] at h30
      refine awp_region rfl ?_
      refine aops_run 2 (by simp only [fwA, seval, gfw, bx, dx, bitfw, g0] <;> rfl) ?_
      refine aops_fn rfl rfl rfl en63 h30 ?_
      refine aops_run 1 (by simp only [fwA, seval, gfw, bx, dx, bitfw, g0] <;> rfl) ?_
      refine aops_end ?_
      refine awp_cond (b := false) (by simp [alook, aput, ev]) (awp_skip ?_)
      refine awp_seq ?_
      refine awp_run rfl (by simp only [fwA, seval] <;> rfl) ?_
      refine awp_ret ?_
      show _ ∧ _ ∧ _ ∧ ares _ _ _ _ _ = some (.int .i64 (if ptB ns.length x.p = true then x.p else -1)) ∧ _
      rw [if_pos hp]
      exact hend _ _ rfl
theorem c70 (Γ : Nat → PV) (ns : List (List UInt8)) (us : List Nat) (x : So) (H : List Blk) (b : Nat) (hb : H[b]? = some (.box [.vec (ns.map S1) false, .vec (us.map U1) false])) :
    ACalls Tryz.prog Γ 70 [.agg x.enc, .ptr b 0] H (fun q H' => q = .bool (!ptB ns.length x.p) ∧ H' = H) := by
  have hbl := (List.getElem?_eq_some_iff.1 hb).1
  have hb1 : ∀ L, (H ++ L)[b]? = some (.box [.vec (ns.map S1) false, .vec (us.map U1) false]) := fun L => by rw [List.getElem?_append_left hbl]; exact hb
  have h30 := c63 Γ ns us x.p
  refine acalls_of_awp Tryz.func70 rfl (by simp [Tryz.f70]) fun hbd => ?_
  refine awp_seq ?_
  refine awp_run rfl (by simp only [fwA, seval] <;> rfl) ?_
  refine awp_seq ?_
  refine awp_region rfl ?_
  refine aops_run 3 (by simp only [fwA, seval, gfw, bx, dx, bitfw, hb1] <;> rfl) ?_
  refine aops_fn rfl rfl rfl en63 h30 ?_
  refine aops_run 2 (by simp only [fwA, seval, gfw, bx, dx, bitfw, hb1] <;> rfl) ?_
  refine aops_end ?_
  refine awp_ret ?_
  exact calls_end (p := .bool (!ptB ns.length x.p)) [.box x.enc] (.inl rfl) hbd rfl rfl ⟨rfl, rfl⟩
theorem c72 (Γ : Nat → PV) (hΓ : Tab64 Γ) (ns : List (List UInt8)) (us : List Nat) (hw : W64 us) (s : List So) (p : Pr) (ha : I64 p.a) (hb' : I64 p.b) (H : List Blk) (b1 b2 : Nat) (hb : H[b1]? = some (.box [.vec (ns.map S1) false, .vec (us.map U1) false])) (hs : H[b2]? = some (.box [.vec (s.map So.enc) false])) :
    ACalls Tryz.prog Γ 72 [.agg p.enc, .ptr b1 0, .ptr b2 0] H (fun q H' => q = .bool (!leqB (min ns.length us.length) us (valueV ns us s p.a) (valueV ns us s p.b)) ∧ H' = H) := by
  have hbl := (List.getElem?_eq_some_iff.1 hb).1
  have hb1 : ∀ L, (H ++ L)[b1]? = some (.box [.vec (ns.map S1) false, .vec (us.map U1) false]) := fun L => by rw [List.getElem?_append_left hbl]; exact hb
  have hbl2 := (List.getElem?_eq_some_iff.1 hs).1
  have hb2 : ∀ L, (H ++ L)[b2]? = some (.box [.vec (s.map So.enc) false]) := fun L => by rw [List.getElem?_append_left hbl2]; exact hs
  have ha1 := c19 Γ hΓ ns us hw s p.a ha
  have ha2 := c19 Γ hΓ ns us hw s p.b hb'
  have h13 := c44 Γ ns us hw (valueV ns us s p.a) (valueV ns us s p.b)
  refine acalls_of_awp Tryz.func72 rfl (by simp [Tryz.f72]) fun hbd => ?_
  refine awp_seq ?_
  refine awp_run rfl (by simp only [fwA, seval] <;> rfl) ?_
  refine awp_seq ?_
  refine awp_drawn [1, 1, 1, 0, 1, 0, 1, 1, 0, 1, 0, 0, 0, 0] [0, 0, 0, 0, 8, 30, 0, 0, 0, 256, 1022, 2047, 4095, 8191] mixed rfl (by kernel_rfl) ?_
  refine dops_run 5 (by simp only [fwA, seval, gfw, bx, dx, bitfw, hb1, hb2] <;> rfl) ?_
  refine dops_fn rfl (by simp only [fwA, seval] <;> rfl) rfl rfl en19 ha1 ?_
  refine dops_run 4 (by simp only [fwA, seval, gfw, bx, dx, bitfw, hb1, hb2] <;> rfl) ?_
  refine dops_fn rfl (by simp only [fwA, seval] <;> rfl) rfl rfl en19 ha2 ?_
  refine dops_fn rfl (by simp only [fwA, seval] <;> rfl) rfl rfl en44 h13 ?_
  refine dops_run 2 (by simp only [fwA, seval, gfw, bx, dx, bitfw, hb1, hb2] <;> rfl) ?_
  refine dops_end ?_
  refine awp_ret ?_
  exact calls_end (p := .bool (!leqB (min ns.length us.length) us (valueV ns us s p.a) (valueV ns us s p.b))) [.box p.enc] (.inl rfl) hbd rfl rfl ⟨rfl, rfl⟩
theorem c21 (Γ : Nat → PV) (hΓ : Tab64 Γ) (ns : List (List UInt8)) (us : List Nat) (hw : W64 us) (c : List Pr) (hl : c.length ≤ 100000000) (ho : OkP c) (s : List So) : Gives Tryz.prog Γ 21 [.agg [.vec (ns.map S1) false, .vec (us.map U1) false], .vec (c.map Pr.enc) false, .vec (s.map So.enc) false] (.bool (solvesB ns us c s)) := by
  have h22 := c17 Γ hΓ ns us hw c hl ho
  refine fn_of_awp Tryz.func21 rfl (by simp [Tryz.f21]) rfl fun H => ?_
  refine awp_bd fun hbd0 => ?_
  refine awp_seq ?_
  refine awp_run rfl (by simp only [fwA, seval] <;> rfl) ?_
  have g0 : (H ++ [Blk.box [.vec (ns.map S1) false, .vec (us.map U1) false], .box [.vec (s.map So.enc) false]])[H.length]? = some (.box [.vec (ns.map S1) false, .vec (us.map U1) false]) := by rw [Fw.get_at0]; rfl
  have g1 : (H ++ [Blk.box [.vec (ns.map S1) false, .vec (us.map U1) false], .box [.vec (s.map So.enc) false]])[H.length + 1]? = some (.box [.vec (s.map So.enc) false]) := by rw [Fw.get_at]; rfl
  have hpre : ∃ L, H ++ [Blk.box [.vec (ns.map S1) false, .vec (us.map U1) false], .box [.vec (s.map So.enc) false]] = H ++ L := ⟨_, rfl⟩
  generalize hK : H ++ [Blk.box [.vec (ns.map S1) false, .vec (us.map U1) false], .box [.vec (s.map So.enc) false]] = K at g0 g1 hpre ⊢
  have hend : ∀ (A' : List (Nat × PV)) (v : Bool), alook A' 6 = .bool v → ((Exit.ret = .ret ∨ Exit.ret = .normal) ∧ ([] : List Nat).Nodup ∧ (∀ b ∈ ([] : List Nat), K[b]? = some .dfr ∧ H.length ≤ b) ∧ ares Tryz.prog Γ A' K Tryz.f21.results.toList = some (.bool v) ∧ ∃ L', K = H ++ L') := fun A' v hv => by
    obtain ⟨L, rfl⟩ := hpre
    exact gives_end (.inl rfl) _ (by simp [ares, aresL, ares1, Tryz.f21, hv])
  have h28 := c69 Γ 70 en70 [.ptr H.length 0] (fun x => !ptB ns.length x.p) s K (fun x hx => c70 Γ ns us x K H.length g0)
  have h31 := c71 Γ 72 en72 [.ptr H.length 0, .ptr (H.length + 1) 0] (fun p => !leqB (min ns.length us.length) us (valueV ns us s p.a) (valueV ns us s p.b)) c K (fun p hp => c72 Γ hΓ ns us hw s p (ho p hp).1 (ho p hp).2 K H.length (H.length + 1) g0 g1)
  rw [any_all] at h28 h31
  unfold solvesB
  refine awp_seq ?_
  refine awp_seq ?_
  cases hk : knownB ns us c
  · rw [hk] at h22
    refine awp_region rfl ?_
    refine aops_run 2 (by simp only [fwA, seval, gfw, bx, dx, bitfw, g0, g1] <;> rfl) ?_
    refine aops_fn rfl rfl rfl en17 h22 ?_
    refine aops_run 6 (by simp only [fwA, seval, gfw, bx, dx, bitfw, g0, g1] <;> rfl) ?_
    refine aops_end ?_
    refine awp_cond (b := true) (by simp [alook, aput, ev]) ?_
    refine awp_seq ?_
    refine awp_run rfl (by simp only [fwA, seval] <;> rfl) ?_
    refine awp_ret ?_
    exact hend _ _ rfl
  rw [hk] at h22
  refine awp_region rfl ?_
  refine aops_run 2 (by simp only [fwA, seval, gfw, bx, dx, bitfw, g0] <;> rfl) ?_
  refine aops_fn rfl rfl rfl en17 h22 ?_
  refine aops_run 4 (by simp only [fwA, seval, gfw, bx, dx, bitfw, g1] <;> rfl) ?_
  refine aops_if rfl rfl rfl (os_call rfl rfl en69 (h28.mono fun p H' hp => ?_))
  obtain ⟨rfl, e⟩ := hp
  rw [e]
  cases h2 : s.all fun x => ptB ns.length x.p
  · refine aops_run 1 (by simp only [fwA, seval, gfw, bx, dx, bitfw] <;> rfl) ?_
    refine aops_end ?_
    refine awp_cond (b := true) (by simp [alook, aput, ev]) ?_
    refine awp_seq ?_
    refine awp_run rfl (by simp only [fwA, seval] <;> rfl) ?_
    refine awp_ret ?_
    exact hend _ _ rfl
  refine aops_run 1 (by simp only [fwA, seval, gfw, bx, dx, bitfw] <;> rfl) ?_
  refine aops_end ?_
  refine awp_cond (b := false) (by simp [alook, aput, ev]) (awp_skip ?_)
  refine awp_seq ?_
  refine awp_region rfl ?_
  refine aops_run 2 (by simp only [fwA, seval, gfw, bx, dx, bitfw] <;> rfl) ?_
  refine aops_call rfl rfl rfl en71 (h31.mono fun p H' hp => ?_)
  obtain ⟨rfl, e⟩ := hp
  rw [e]
  refine aops_run 2 (by simp only [fwA, seval, gfw, bx, dx, bitfw] <;> rfl) ?_
  refine aops_end ?_
  refine awp_ret ?_
  exact hend _ _ (by simp [alook, aput])
end Go.Proofs.YteicbhkimepbaaaGreatDoor
namespace Go.Proofs.YteicbhkimepbaaaGreatDoor.Fw
set_option linter.unusedVariables false
set_option linter.unusedSimpArgs false
set_option maxRecDepth 100000
open Go.RowKit
def Asks (P : Program) (kt : TypeId) (key : PV) (es : List (PV × PV)) (r : Option (Nat × PV)) : Prop :=
  ∀ (G : Ghost) (n : Nat) (v : Value) (w : World) (E : List MapEntry), Rep G n key v → E.length = es.length → (∀ (j : Nat) p q x, es[j]? = some (p, q) → E[j]? = some x → Rep G n p x.key ∧ Rep G n q x.val) →
    (∀ em, (Instr.checkKey em 10000 kt v).run P w = .ok () w) ∧ ∃ r', (Instr.findKey kt v E).run P w = .ok r' w ∧ match r with | none => r' = none | some (j, q) => ∃ u, r' = some (j, u) ∧ Rep G n q u
theorem rep_pair {G : Ghost} {n : Nat} {k : IntKind} {a c : Int} {v : Value} (h : Rep G n (.agg [.int k a, .int k c]) v) : v = .agg #[.int k a, .int k c] := by
  cases h with
  | agg _ _ us k1 k2 k3 =>
    have hs : us.size = 2 := k1.symm
    have h0 := k2 0 _ us[0] rfl (Array.getElem?_eq_getElem (by omega))
    have h1 := k2 1 _ us[1] rfl (Array.getElem?_eq_getElem (by omega))
    congr 1
    refine Array.ext (by simpa using hs) fun i hi hi2 => ?_
    match i with
    | 0 => exact h0.int_inv
    | 1 => exact h1.int_inv
    | i + 2 => omega
def find2 (a c : Int) : List ((Int × Int) × PV) → Nat → Option (Nat × PV)
  | [], _ => none
  | x :: es, i => if a = x.1.1 ∧ c = x.1.2 then some (i, x.2) else find2 a c es (i + 1)
def enc2 (x : (Int × Int) × PV) : PV × PV := (.agg [.int .i64 x.1.1, .int .i64 x.1.2], x.2)
section
variable {P : Program} {kt e : TypeId} {inf : TypeInfo}
theorem part2 (he : P.underlying e = some (.int .i64)) {cs : Array Value} {i : Nat} {v : Value} (h : cs[i]? = some v) (w : World) : (part e cs i).run P w = .ok v w := by
  simp [part, run_agg he, aggD, h]
theorem check2 (hkt : P.underlying kt = some (.array 2 e)) (he : P.underlying e = some (.int .i64)) (hi : P.info? e = some inf) (hs : inf.size = 1) (em : Bool) (a c : Int) (w : World) : (Instr.checkKey em 10000 kt (.agg #[.int .i64 a, .int .i64 c])).run P w = .ok () w := by
  have h0 : (part e #[.int .i64 a, .int .i64 c] 0).run P w = .ok (.int .i64 a) w := part2 he rfl w
  have h1 : (part e #[.int .i64 a, .int .i64 c] 1).run P w = .ok (.int .i64 c) w := part2 he rfl w
  have k0 : ∀ a : Int, (Instr.checkKey em 9999 e (.int .i64 a)).run P w = .ok () w := fun a => by
    unfold Instr.checkKey
    simp [run_under he]
  unfold Instr.checkKey
  simp [run_under hkt, run_size hi, hs, h0, h1, k0, Std.Legacy.Range.forIn_eq_forIn_range', List.range'_succ]
theorem equal2 (hkt : P.underlying kt = some (.array 2 e)) (he : P.underlying e = some (.int .i64)) (hi : P.info? e = some inf) (hs : inf.size = 1) (a c x y : Int) (w : World) : (Op.equal kt (.agg #[.int .i64 a, .int .i64 c]) (.agg #[.int .i64 x, .int .i64 y])).run P w = .ok (decide (a = x ∧ c = y)) w := by
  have h0 : ∀ a c : Int, (part e #[.int .i64 a, .int .i64 c] 0).run P w = .ok (.int .i64 a) w := fun a c => part2 he rfl w
  have h1 : ∀ a c : Int, (part e #[.int .i64 a, .int .i64 c] 1).run P w = .ok (.int .i64 c) w := fun a c => part2 he rfl w
  have k0 : ∀ a c : Int, (Op.equalIn 9999 e (.int .i64 a) (.int .i64 c)).run P w = .ok (decide (a = c)) w := fun a c => run_equalIn_int w 9998 e _ _ _ _ he
  show (Op.equalIn 10000 kt _ _).run P w = _
  unfold Op.equalIn
  by_cases e1 : a = x <;> by_cases e2 : c = y <;>
  simp [run_under hkt, run_size hi, hs, h0, h1, k0, Std.Legacy.Range.forIn_eq_forIn_range', List.range'_succ, e1, e2]
theorem ask2 (hkt : P.underlying kt = some (.array 2 e)) (he : P.underlying e = some (.int .i64)) (hi : P.info? e = some inf) (hs : inf.size = 1) (a c : Int) {G : Ghost} {n : Nat} (w : World) : ∀ (es : List ((Int × Int) × PV)) (E : List MapEntry) (i : Nat), E.length = es.length → (∀ (j : Nat) p q x, (es.map enc2)[j]? = some (p, q) → E[j]? = some x → Rep G n p x.key ∧ Rep G n q x.val) →
    ∃ r', (Instr.findAsking kt (.agg #[.int .i64 a, .int .i64 c]) E i).run P w = .ok r' w ∧ match find2 a c es i with | none => r' = none | some (j, q) => ∃ u, r' = some (j, u) ∧ Rep G n q u
  | [], [], i, _, _ => ⟨none, by simp [Instr.findAsking], rfl⟩
  | x :: es, y :: E, i, hl, hE => by
    obtain ⟨h1, h2⟩ := hE 0 _ _ y rfl rfl
    have hk := rep_pair h1
    obtain ⟨r', r1, r2⟩ := ask2 hkt he hi hs a c w es E (i + 1) (by simpa using hl) fun j p q z hj hz => hE (j + 1) p q z hj hz
    have heq := equal2 hkt he hi hs a c x.1.1 x.1.2 w
    rw [← hk] at heq
    unfold Instr.findAsking find2
    by_cases hc : a = x.1.1 ∧ c = x.1.2
    · rw [if_pos hc]
      rw [decide_eq_true hc] at heq
      exact ⟨some (i, y.val), by simp [heq], y.val, rfl, h2⟩
    · rw [if_neg hc]
      rw [decide_eq_false hc] at heq
      exact ⟨r', by simp [heq, r1], r2⟩
theorem asks2 (hkt : P.underlying kt = some (.array 2 e)) (he : P.underlying e = some (.int .i64)) (hi : P.info? e = some inf) (hs : inf.size = 1) (a c : Int) (es : List ((Int × Int) × PV)) : Asks P kt (.agg [.int .i64 a, .int .i64 c]) (es.map enc2) (find2 a c es 0) := fun G n v w E hr hl hE => by
  have hv := rep_pair hr
  subst hv
  refine ⟨fun em => check2 hkt he hi hs em a c w, ?_⟩
  obtain ⟨r', r1, r2⟩ := ask2 hkt he hi hs a c (G := G) (n := n) w es E 0 (by simpa using hl) hE
  have hwide : (match P.underlying kt with | some (.array _ _) | some (.struct _) => true | _ => false) = true := by rw [hkt]
  exact ⟨r', by rw [run_findKey_eq w hwide]; exact r1, r2⟩
end
section
variable {P : Program} {Γ : Nat → PV} {o : Oper} {A : List (Nat × PV)} {H : List Blk} {K : PV → List Blk → Prop}
theorem os_lookupA {t kt et : TypeId} {x i : Operand} {ok : Bool} {b : Nat} {es : List (PV × PV)} {r : Option (Nat × PV)} {z : PV} (ho : o.op = .lookup t x i ok) (ht : P.underlying t = some (.map kt et))
    (hx : ev Γ A x = .map b) (hb : H[b]? = some (.map es)) (hf : Asks P kt (ev Γ A i) es r) (hz : r = none → zeroOf P et = some z ∧ ∀ i z cs, P.info? et = some i → i.zero = some z → z = .agg cs → ∀ (j : Nat) u, cs[j]? = some u → u.oneCell' = true)
    (hk : K (if ok = true then .tup [gotOr r z, .bool r.isSome] else gotOr r z) H) : OStep P Γ o A H K :=
  ostep_pure (by simp [ho]) _ hk fun w0 G w N a hs ha => by
    have hm := ha.ev hs.glob x
    rw [hx] at hm
    have hm := hm.map_inv
    obtain ⟨h0, E, clock, h1, h2, h3, _, _⟩ := hs.map_at hb
    have hkr := ha.ev hs.glob i
    obtain ⟨hck, r', hfk, h5⟩ := hf G H.length _ w E.toList hkr (by simpa using h2) (fun j p q x e1 e2 => h3 j p q x e1 (by simpa using e2))
    have hck := hck E.isEmpty
    have key : ∃ v bb, (match r' with | some (_, v) => (pure (v, true) : Sem (Value × Bool)) | none => do pure (← zeroValue et, false)).run P w = .ok (v, bb) w ∧ bb = r.isSome ∧ Rep G H.length (gotOr r z) v := by
      cases r with
      | none =>
        simp only at h5
        subst h5
        obtain ⟨z', e1, e2⟩ := zeroOf_spec (hz rfl).1 G H.length (hz rfl).2
        exact ⟨z', false, by simp [e1 w], rfl, e2⟩
      | some jq =>
        obtain ⟨j, q⟩ := jq
        obtain ⟨u, rfl, e2⟩ := h5
        exact ⟨u, true, by simp, rfl, e2⟩
    obtain ⟨v, bb, h6, h7, h8⟩ := key
    have hrun : (Instr.lookup t (a.eval x) (a.eval i) ok).run P w = .ok (if ok then .tuple #[v, .bool bb] else v) w := by
      unfold Instr.lookup
      simp only [Sem.run_bind, run_under ht, Result.andThen, hm, MapKept.run_getObj_map h1, Sem.run_pure, hck, hfk]
      cases r with
      | none =>
        simp only at h5
        subst h5
        simp only [Sem.run_bind, Result.andThen, Sem.run_pure] at h6 ⊢
        generalize (zeroValue et).run P w = q at h6 ⊢
        cases q with
        | ok x w' => simp only [Result.ok.injEq, Prod.mk.injEq] at h6 ⊢; obtain ⟨⟨rfl, rfl⟩, rfl⟩ := h6; exact ⟨rfl, rfl⟩
        | halt x w' => cases h6
      | some jq =>
        obtain ⟨u, rfl, _⟩ := h5
        simp only [Sem.run_pure, Result.ok.injEq, Prod.mk.injEq] at h6 ⊢
        obtain ⟨⟨rfl, rfl⟩, _⟩ := h6
        rfl
    refine ⟨if ok then .tuple #[v, .bool bb] else v, by simp only [execOp, ho]; simp [hrun], ?_⟩
    cases ok with
    | false => exact h8
    | true =>
      simp only [if_true]
      refine .tup _ _ _ rfl fun j c u hc hu => ?_
      match j with
      | 0 => cases hc; cases hu; exact h8
      | 1 => cases hc; cases hu; rw [h7]; exact .bool _ _
      | j + 2 => simp at hc
theorem os_insertA {t kt et : TypeId} {x i y : Operand} {b : Nat} {es : List (PV × PV)} (ho : o.op = .mapUpdate t x i y ∨ o.op = .insert t x i y) (ht : P.underlying t = some (.map kt et))
    (hx : ev Γ A x = .map b) (hb : H[b]? = some (.map es)) (hf : Asks P kt (ev Γ A i) es none)
    (hk : K .any (H.set b (.map (es ++ [(ev Γ A i, ev Γ A y)])))) : OStep P Γ o A H K :=
  ostep_skip (by rcases ho with ho | ho <;> simp [ho]) fun w0 G w N a hs ha => by
    have hm := ha.ev hs.glob x
    rw [hx] at hm
    have hm := hm.map_inv
    obtain ⟨h0, E, clock, h1, h2, h3, h4, h5⟩ := hs.map_at hb
    have hkr := ha.ev hs.glob i
    have hyr := ha.ev hs.glob y
    obtain ⟨hck, r', hfk, h7⟩ := hf G H.length _ w E.toList hkr (by simpa using h2) (fun j p q x e1 e2 => h3 j p q x e1 (by simpa using e2))
    have hck := hck false
    simp only at h7
    subst h7
    have hexec : ∀ w', (Instr.mapUpdate t (a.eval x) (a.eval i) (a.eval y)).run P w = .ok () w' → (execOp a.eval o).run P w = .ok .skip w' := fun w' h => by
      rcases ho with ho | ho <;> simp [execOp, ho, h]
    have fin : ∀ (E' : Array MapEntry) (clock' : Nat) (es' : List (PV × PV)), E'.size = es'.length → (∀ (j : Nat) p q x, es'[j]? = some (p, q) → E'[j]? = some x → Rep G H.length p x.key ∧ Rep G H.length q x.val) →
        (∀ (j : Nat) x, E'[j]? = some x → x.born < clock') → (∀ (j k : Nat) x y, E'[j]? = some x → E'[k]? = some y → x.born = y.born → j = k) →
        Sim Γ w0 G (H.set b (.map es')) { w with heap := w.heap.setIfInBounds (G.info b).blk (.map E' clock') } := fun E' clock' es' e1 e2 e3 e4 => by
      refine hs.setSame hb rfl (fun k hk => by simp [Array.getElem?_setIfInBounds, Ne.symm hk]) (by simp) ⟨rfl, rfl, rfl, rfl⟩ ⟨h0, E', clock', ?_, e1, e2, e3, e4⟩
      have := (Array.getElem?_eq_some_iff.1 h1).1
      simp [Array.getElem?_setIfInBounds, this]
    refine ⟨_, G, _, hexec _ (by simp [Instr.mapUpdate, run_under ht, Result.andThen, hm, MapKept.run_getObj_map h1, hck, hfk, MapKept.run_setObj_map _ h1]; rfl), fin _ _ (es ++ [(ev Γ A i, ev Γ A y)]) (by simp [h2]) (fun j p q x e1 e2 => ?_) (fun j x e => ?_) (fun j k x y e1 e2 he => ?_), Evol.refl _ _, by simp, hk⟩
    · by_cases hj : j < es.length
      · rw [List.getElem?_append_left hj] at e1
        rw [Array.getElem?_push_lt (by omega)] at e2
        exact h3 j p q x e1 (by rw [Array.getElem?_eq_getElem (by omega)]; exact e2)
      · have hj' : j = es.length := by
          have := (List.getElem?_eq_some_iff.1 e1).1
          simp at this; omega
        subst hj'
        simp at e1
        rw [← h2] at e2
        simp at e2
        obtain ⟨rfl, rfl⟩ := e1
        subst e2
        exact ⟨hkr, hyr⟩
    · rw [Array.getElem?_push] at e
      split at e
      · cases e; exact Nat.lt_succ_self _
      · exact Nat.lt_succ_of_lt (h4 j x e)
    · rw [Array.getElem?_push] at e1 e2
      split at e1 <;> split at e2
      · omega
      · cases e1; have := h4 k y e2; simp at he; omega
      · cases e2; have := h4 j x e1; simp at he; omega
      · exact h5 j k x y e1 e2 he
theorem os_buildArr {t : TypeId} {parts : Array (Nat × Operand)} {ti : TI} {m sz : Nat} {cs : List PV} (ho : o.op = .build t parts) (ht : tiOf P t = some ti) (har : arOf P t = some (m, sz))
    (hb : abuild (fun i => some (i * sz, sz)) ti.zero (parts.toList.map fun x => (x.1, ev Γ A x.2)) = some cs) (hk : K (.agg cs) H) : OStep P Γ o A H K :=
  ostep_pure (by simp [ho]) _ hk fun w0 G w N a hs ha => by
    obtain ⟨i, d, z, hi, hd, hz, hzs, hsz, _, h1, hagg, hzero⟩ := tiOf_spec ht
    obtain ⟨te, ie, hu, hinf, hes⟩ := arOf_spec har
    have hzr : Reps G H.length ti.zero z.cells.toList := by
      rw [hzero]
      refine ⟨by simp, fun j p v hp hv => ?_⟩
      rw [List.getElem?_map, hv] at hp
      obtain rfl := Option.some.inj hp
      exact ofC_rep _ _ _
    obtain ⟨C', hC', hr, h1'⟩ := fill_spec (place := fun i => some (i * sz, sz)) (place' := fun i => some (i * sz, sz)) (parts.toList.map fun x => (x.1, ev Γ A x.2)) (parts.toList.map fun x => (x.1, a.eval x.2)) ti.zero cs z.cells (fun i => by simp) (by simp)
      (fun j i p i' v hj hj' => by
        rw [List.getElem?_map] at hj hj'
        cases hx : parts.toList[j]? with
        | none => rw [hx] at hj; cases hj
        | some x =>
          rw [hx] at hj hj'
          simp only [Option.map_some, Option.some.injEq, Prod.mk.injEq] at hj hj'
          obtain ⟨rfl, rfl⟩ := hj
          obtain ⟨rfl, rfl⟩ := hj'
          exact ⟨rfl, ha.ev hs.glob x.2⟩) hzr h1 hb
    refine ⟨.agg C', ?_, .agg _ _ _ (hr.1.trans Array.length_toList) (fun j c v hc hv => hr.2 j c v hc (by simpa using hv)) h1'⟩
    simp only [execOp, ho, Instr.build, Sem.run_bind, run_zero hi hz, run_under hu, Result.andThen_ok, run_size hinf, hes, Array.toList_map]
    rw [hC']
    rfl
theorem find2_new {a c : Int} {v : PV} : ∀ {es : List ((Int × Int) × PV)} {i : Nat}, find2 a c es i = none → find2 a c (es ++ [((a, c), v)]) i = some (i + es.length, v)
  | [], i, _ => by simp [find2]
  | x :: es, i, h => by
    unfold find2 at h
    split at h
    · cases h
    · rename_i hc
      rw [List.cons_append]
      unfold find2
      rw [if_neg hc, find2_new h, List.length_cons]
      congr 2; omega
theorem find2_mem {a c : Int} : ∀ {es : List ((Int × Int) × PV)} {i : Nat} {r : Nat × PV}, find2 a c es i = some r → ((a, c), r.2) ∈ es
  | [], i, r, h => by cases h
  | x :: es, i, r, h => by
    unfold find2 at h
    split at h
    · rename_i hc
      cases h
      obtain ⟨h1, h2⟩ := hc
      subst h1 h2
      exact List.mem_cons_self
    · exact List.mem_cons_of_mem _ (find2_mem h)
end
end Go.Proofs.YteicbhkimepbaaaGreatDoor.Fw
namespace Go.Proofs.YteicbhkimepbaaaGreatDoor
set_option linter.unusedVariables false
set_option linter.unusedSimpArgs false
set_option maxRecDepth 100000
open Go.RowKit Fw
theorem calls_cut {P : Program} {Γ : Nat → PV} {fn : Func} {n : Nat} {p : PV} {R : PV → List Blk → Prop} {A' : List (Nat × PV)} (H1 L : List Blk) {e : Exit} (he : e = .ret ∨ e = .normal) (hbd : ∀ B ∈ H1, B.bd H1.length = true) (h : ares P Γ A' (H1 ++ L) fn.results.toList = some p) (hp : p.bd H1.length = true) (hn : n ≤ H1.length) (hR : R p H1) :
    RetQ P Γ fn n R e A' (H1 ++ L) [] := by
  have ht : (H1 ++ L).take H1.length = H1 := List.take_left' rfl
  exact ⟨he, List.nodup_nil, (fun b hb => by cases hb), p, H1.length, h, hn, by simp, fun b hb => (by cases hb), hp, by rw [ht]; exact hbd, by rw [ht]; exact hR⟩
end Go.Proofs.YteicbhkimepbaaaGreatDoor
namespace Go.Proofs.YteicbhkimepbaaaGreatDoor
set_option linter.unusedVariables false
set_option linter.unusedSimpArgs false
set_option maxRecDepth 100000
open Go.RowKit Fw
def JoinsOk (ns : List (List UInt8)) (us : List Nat) (es : List ((Int × Int) × PV)) : Prop := ∀ x ∈ es, x.2 = .int .i64 (joinV ns us x.1.1 x.1.2)
def joinsTo (ns : List (List UInt8)) (us : List Nat) (es : List ((Int × Int) × PV)) (a b : Int) : List ((Int × Int) × PV) := if (find2 a b es 0).isSome then es else es ++ [((a, b), .int .i64 (joinV ns us a b))]
theorem JoinsOk.to {ns : List (List UInt8)} {us : List Nat} {es : List ((Int × Int) × PV)} (h : JoinsOk ns us es) (a b : Int) : JoinsOk ns us (joinsTo ns us es a b) := fun x hx => by
  unfold joinsTo at hx
  split at hx
  · exact h x hx
  · rcases List.mem_append.1 hx with hx | hx
    · exact h x hx
    · rw [List.mem_singleton.1 hx]
theorem JoinsOk.bd {ns : List (List UInt8)} {us : List Nat} {es : List ((Int × Int) × PV)} (h : JoinsOk ns us es) (n : Nat) : (Blk.map (es.map enc2)).bd n = true := by
  unfold Blk.bd
  rw [List.all_eq_true]
  intro y hy
  obtain ⟨x, hx, rfl⟩ := List.mem_map.1 hy
  unfold enc2
  rw [h x hx]; rfl
theorem z3 : zero1 Tryz.prog 3 = some (.int .i64 0) := by kernel_rfl
theorem set_bd {H : List Blk} {m : Nat} {B : Blk} (h : ∀ B ∈ H, B.bd H.length = true) (hB : B.bd H.length = true) : ∀ C ∈ H.set m B, C.bd (H.set m B).length = true := fun C hC => by
  rw [List.length_set]
  rcases List.mem_or_eq_of_mem_set hC with hC | rfl
  · exact h C hC
  · exact hB
set_option maxHeartbeats 4000000 in
theorem c54 (Γ : Nat → PV) (hΓ : Tab64 Γ) (ns : List (List UInt8)) (us : List Nat) (hw : W64 us) (a b : Int) (m : Nat) (es : List ((Int × Int) × PV)) (hg : JoinsOk ns us es) (hle : leqB (min ns.length us.length) us a b = false) (H : List Blk) (hm : H[m]? = some (.map (es.map enc2))) :
    ACalls Tryz.prog Γ 54 [.agg [.vec (ns.map S1) false, .vec (us.map U1) false, .map m], .int .i64 a, .int .i64 b] H (fun q H' => q = .int .i64 (joinV ns us a b) ∧ H' = H.set m (.map ((joinsTo ns us es a b).map enc2))) := by
  have h13 := c44 Γ ns us hw a b
  rw [hle] at h13
  have h47 := c78 Γ hΓ ns us hw a b
  have hml := (List.getElem?_eq_some_iff.1 hm).1
  have gm : ∀ L, (H ++ L)[m]? = some (.map (es.map enc2)) := fun L => by rw [List.getElem?_append_left hml]; exact hm
  obtain ⟨i3, _, _, hi3, _, _, _, hs3, _⟩ := tiOf_spec ti3
  have hask := asks2 (P := Tryz.prog) (kt := 133) (e := 3) Tryz.underlying133 un3 hi3 hs3 a b
  have ar133 : arOf Tryz.prog 133 = some (2, 1) := by kernel_rfl
  refine acalls_of_awp Tryz.func54 rfl (by simp [Tryz.f54]) fun hbd => ?_
  refine awp_seq ?_
  refine awp_run rfl (by simp only [fwA, seval] <;> rfl) ?_
  refine awp_seq ?_
  refine awp_seq ?_
  refine awp_region rfl ?_
  refine aops_run 4 (by simp only [fwA, seval, gfw, bx, dx, bitfw] <;> rfl) ?_
  refine aops_fn rfl rfl rfl en44 h13 ?_
  refine aops_end ?_
  refine awp_cond (b := false) (by simp [alook, aput, ev]) (awp_skip ?_)
  refine awp_seq ?_
  refine awp_region rfl ?_
  refine aops_run 2 (by simp only [fwA, seval, gfw, bx, dx, bitfw] <;> rfl) ?_
  refine aops_one rfl (os_buildArr (cs := [.int .i64 a, .int .i64 b]) rfl ti133 ar133 rfl ?_)
  refine aops_run 2 (by simp only [fwA, seval, gfw, bx, dx, bitfw] <;> rfl) ?_
  refine aops_end ?_
  have g0 : (H ++ [Blk.box [.vec (ns.map S1) false, .vec (us.map U1) false, .map m], .box [.int .i64 a, .int .i64 b]])[H.length]? = some (.box [.vec (ns.map S1) false, .vec (us.map U1) false, .map m]) := by rw [Fw.get_at0]; rfl
  have g1 : (H ++ [Blk.box [.vec (ns.map S1) false, .vec (us.map U1) false, .map m], .box [.int .i64 a, .int .i64 b]])[H.length + 1]? = some (.box [.int .i64 a, .int .i64 b]) := by rw [Fw.get_at]; rfl
  have hsame : ∀ B : Blk, H[m]? = some B → H.set m B = H := fun B h => by
    obtain ⟨h1, h2⟩ := List.getElem?_eq_some_iff.1 h
    subst h2
    exact List.set_getElem_self _
  have hfind : ∃ j, find2 a b (joinsTo ns us es a b) 0 = some (j, .int .i64 (joinV ns us a b)) := by
    unfold joinsTo
    cases hf : find2 a b es 0 with
    | none => rw [if_neg (by simp)]; exact ⟨_, find2_new hf⟩
    | some r =>
      rw [if_pos (by simp), hf]
      have := hg _ (find2_mem hf)
      simp only at this
      exact ⟨r.1, by rw [← this]⟩
  refine awp_join [3, 7] (fun _ : Unit => [.ptr H.length 0, .ptr (H.length + 1) 0]) (fun _ => H.set m (.map ((joinsTo ns us es a b).map enc2)) ++ [Blk.box [.vec (ns.map S1) false, .vec (us.map U1) false, .map m], .box [.int .i64 a, .int .i64 b]]) (fun _ => True) ?_ fun _ _ => ?_
  · refine awp_seq ?_
    refine awp_region rfl ?_
    refine aops_run 3 (by simp only [fwA, seval, gfw, bx, dx, bitfw, g0, g1] <;> rfl) ?_
    refine aops_one rfl (os_lookupA (z := .int .i64 0) rfl un87 rfl (gm _) (hask es) (fun _ => zero1_spec z3) ?_)
    cases hf : find2 a b es 0 with
    | some r =>
      refine aops_run 5 (by simp only [fwA, seval, gfw, bx, dx, bitfw] <;> rfl) ?_
      refine aops_end ?_
      refine awp_seq ?_
      refine awp_run rfl (by simp only [fwA, seval] <;> rfl) ?_
      refine awp_cond (b := false) (by simp [alook, aput, ev]) (awp_skip ?_)
      refine ⟨(), trivial, rfl, ?_, rfl⟩
      have : joinsTo ns us es a b = es := by unfold joinsTo; rw [hf, if_pos (by rfl)]
      rw [this, hsame _ hm]
    | none =>
      refine aops_run 5 (by simp only [fwA, seval, gfw, bx, dx, bitfw] <;> rfl) ?_
      refine aops_end ?_
      refine awp_seq ?_
      refine awp_run rfl (by simp only [fwA, seval] <;> rfl) ?_
      refine awp_cond (b := true) (by simp [alook, aput, ev]) ?_
      refine awp_drawn [0, 1, 1, 0, 1, 0, 0, 0, 2] [0, 1, 0, 0, 8, 0, 0, 120, 255] mixed rfl (by kernel_rfl) ?_
      refine dops_run 7 (by simp only [fwA, seval, gfw, bx, dx, bitfw, g0, g1] <;> rfl) ?_
      refine dops_fn rfl rfl rfl rfl en78 h47 ?_
      refine dops_turns (H' := (H ++ [Blk.box [.vec (ns.map S1) false, .vec (us.map U1) false, .map m], .box [.int .i64 a, .int .i64 b]]).set m (.map ((es ++ [((a, b), PV.int .i64 (joinV ns us a b))]).map enc2))) .any rfl rfl (fun A' hev => os_insertA (.inl rfl) un87 ((hev _ (by simp [Op.operands])).trans rfl) (gm _) (by rw [hev _ (by simp [Op.operands])]; have := hask es; rw [hf] at this; exact this) ⟨rfl, by rw [hev _ (by simp [Op.operands]), hev _ (by simp [Op.operands]), List.map_append]; rfl⟩) ?_
      refine dops_end ?_
      refine ⟨(), trivial, rfl, ?_, rfl⟩
      have : joinsTo ns us es a b = es ++ [((a, b), .int .i64 (joinV ns us a b))] := by unfold joinsTo; rw [hf, if_neg (by simp)]
      rw [this, List.set_append_left _ _ hml]
  have gm2 : ∀ L, (H.set m (.map ((joinsTo ns us es a b).map enc2)) ++ L)[m]? = some (.map ((joinsTo ns us es a b).map enc2)) := fun L => by
    rw [List.getElem?_append_left (by rw [List.length_set]; exact hml), List.getElem?_set_self hml]
  have g2 : (H.set m (.map ((joinsTo ns us es a b).map enc2)) ++ [Blk.box [.vec (ns.map S1) false, .vec (us.map U1) false, .map m], .box [.int .i64 a, .int .i64 b]])[H.length]? = some (.box [.vec (ns.map S1) false, .vec (us.map U1) false, .map m]) := by rw [List.getElem?_append_right (by simp), List.length_set, Nat.sub_self]; rfl
  have g3 : (H.set m (.map ((joinsTo ns us es a b).map enc2)) ++ [Blk.box [.vec (ns.map S1) false, .vec (us.map U1) false, .map m], .box [.int .i64 a, .int .i64 b]])[H.length + 1]? = some (.box [.int .i64 a, .int .i64 b]) := by rw [List.getElem?_append_right (by simp), List.length_set, show H.length + 1 - H.length = 1 by omega]; rfl
  obtain ⟨j, hj⟩ := hfind
  have hask2 := hask (joinsTo ns us es a b)
  rw [hj] at hask2
  refine awp_seq ?_
  refine awp_region rfl ?_
  refine aops_run 3 (by simp only [fwA, seval, gfw, bx, dx, bitfw, g2, g3] <;> rfl) ?_
  refine aops_one rfl (os_lookupA (z := .int .i64 0) rfl un87 rfl (gm2 _) hask2 (fun h => by cases h) ?_)
  refine aops_run 1 (by simp only [fwA, seval, gfw, bx, dx, bitfw] <;> rfl) ?_
  refine aops_end ?_
  refine awp_ret ?_
  have hb2 := (hg.to a b).bd H.length
  have hsb := set_bd hbd hb2 (m := m)
  refine calls_cut (p := .int .i64 (joinV ns us a b)) (H.set m (.map ((joinsTo ns us es a b).map enc2))) [Blk.box [.vec (ns.map S1) false, .vec (us.map U1) false, .map m], .box [.int .i64 a, .int .i64 b]] (.inl rfl) hsb rfl rfl (by rw [List.length_set]; exact Nat.le_refl _) ⟨rfl, rfl⟩
end Go.Proofs.YteicbhkimepbaaaGreatDoor
namespace Go.Proofs.YteicbhkimepbaaaGreatDoor
set_option linter.unusedVariables false
set_option linter.unusedSimpArgs false
set_option maxRecDepth 100000
open Go.RowKit Fw
def find1 (a : Int) : List (Int × PV) → Nat → Option (Nat × PV)
  | [], _ => none
  | x :: es, i => if a = x.1 then some (i, x.2) else find1 a es (i + 1)
def enc1 (x : Int × PV) : PV × PV := (.int .i64 x.1, x.2)
theorem mfind1 (a : Int) : ∀ (es : List (Int × PV)) (i : Nat), mfind (.int .i64 a) (es.map enc1) i = some (find1 a es i)
  | [], i => rfl
  | x :: es, i => by
    show mfind (.int .i64 a) ((.int .i64 x.1, x.2) :: es.map enc1) i = _
    unfold mfind find1
    have hk : keyEq (.int .i64 a) (.int .i64 x.1) = some (decide (a = x.1)) := by
      show (if IntKind.i64 = IntKind.i64 then some (decide (a = x.1)) else none) = _
      rw [if_pos rfl]
    rw [hk]
    by_cases h : a = x.1
    · rw [decide_eq_true h, if_pos h]
    · rw [decide_eq_false h, if_neg h]
      exact mfind1 a es (i + 1)
theorem find1_none {a : Int} : ∀ {es : List (Int × PV)} {i : Nat}, (∀ x ∈ es, x.1 ≠ a) → find1 a es i = none
  | [], i, _ => rfl
  | x :: es, i, h => by
    unfold find1
    rw [if_neg (fun e => h x (by simp) e.symm)]
    exact find1_none fun y hy => h y (by simp [hy])
theorem find1_at {a : Int} : ∀ {es : List (Int × PV)} {k i : Nat} {v : PV}, es[k]? = some (a, v) → (es.map (·.1)).Nodup → find1 a es i = some (i + k, v)
  | [], k, i, v, h, _ => by simp at h
  | x :: es, 0, i, v, h, _ => by
    simp only [List.getElem?_cons_zero, Option.some.injEq] at h
    subst h
    unfold find1
    rw [if_pos rfl]; rfl
  | x :: es, k + 1, i, v, h, hn => by
    rw [List.getElem?_cons_succ] at h
    rw [List.map_cons, List.nodup_cons] at hn
    have hne : ¬ a = x.1 := fun e => hn.1 (e ▸ List.mem_map.2 ⟨_, List.mem_of_getElem? h, rfl⟩)
    unfold find1
    rw [if_neg hne, find1_at h hn.2]
    congr 2; omega
def atL (vs : List Int) : List (Int × PV) := vs.zipIdx.map fun x => (x.1, .int .i64 (x.2 : Int))
theorem atL_keys (vs : List Int) : (atL vs).map (·.1) = vs := by
  unfold atL
  rw [List.map_map]
  show vs.zipIdx.map (fun x => x.1) = vs
  simp
theorem atL_get {vs : List Int} {k : Nat} {a : Int} (h : vs[k]? = some a) : (atL vs)[k]? = some (a, .int .i64 (k : Int)) := by
  unfold atL
  rw [List.getElem?_map, List.getElem?_zipIdx, h]; simp
theorem atL_find {vs : List Int} (hn : vs.Nodup) {k : Nat} {a : Int} (h : vs[k]? = some a) : find1 a (atL vs) 0 = some (k, .int .i64 (k : Int)) := by
  have := find1_at (i := 0) (atL_get h) (by rw [atL_keys]; exact hn)
  rwa [Nat.zero_add] at this
def solW (vs : List Int) (σ : Int → Nat) : List So := vs.map fun v => ⟨v, ((σ v : Nat) : Int)⟩
theorem solW_get {vs : List Int} {σ : Int → Nat} {k : Nat} {a : Int} (h : vs[k]? = some a) : (solW vs σ)[k]? = some ⟨a, ((σ a : Nat) : Int)⟩ := by unfold solW; rw [List.getElem?_map, h]; rfl
theorem solW_len (vs : List Int) (σ : Int → Nat) : (solW vs σ).length = vs.length := by simp [solW]
theorem so_drop {l : List So} {k : Nat} {x : So} (h : l[k]? = some x) : (((l.map So.enc).flatten).drop (k * 2 + 1))[0]? = some (.int .i64 x.p) := by
  obtain ⟨hk, rfl⟩ := List.getElem?_eq_some_iff.1 h
  rw [← List.drop_drop, flat_drop So.enc_len, List.drop_eq_getElem_cons hk, List.map_cons, List.flatten_cons]
  rfl
theorem un28' : Tryz.prog.underlying 28 = some (.int .i64) := by kernel_rfl
set_option maxHeartbeats 2000000 in
theorem c51 (Γ : Nat → PV) (vs : List Int) (σ : Int → Nat) (a : Int) (ha : I64 a) (hn : vs.Nodup) (hav : 0 ≤ a → a ∈ vs) (H : List Blk) (bs ba r ma : Nat) (h1 : H[bs]? = some (.box [.row r 0 vs.length 2])) (h2 : H[ba]? = some (.box [.map ma])) (h3 : H[r]? = some (.row 2 (((solW vs σ).map So.enc).flatten))) (h4 : H[ma]? = some (.map ((atL vs).map enc1))) :
    ACalls Tryz.prog Γ 51 [.int .i64 a, .ptr bs 0, .ptr ba 0] H (fun q H' => q = .int .i64 ((vl σ a : Nat) : Int) ∧ H' = H) := by
  have h15 := c43 Γ a
  have h25 := c52 Γ a ha
  have hsl := solW_len vs σ
  refine acalls_of_awp Tryz.func51 rfl (by simp [Tryz.f51]) fun hbd => ?_
  refine awp_seq ?_
  refine awp_run rfl (by simp only [fwA, seval] <;> rfl) ?_
  refine awp_seq ?_
  refine awp_seq ?_
  refine awp_region rfl ?_
  refine aops_run 1 (by simp only [fwA, seval, gfw, bx, dx, bitfw] <;> rfl) ?_
  refine aops_fn rfl rfl rfl en43 h15 ?_
  refine aops_end ?_
  unfold vl
  by_cases h0 : a < 0
  · rw [if_pos h0]
    rw [decide_eq_true h0]
    have hp : pointOf a = (((-1 - a).toNat : Nat) : Int) := by unfold pointOf; rw [if_neg (by omega)]; omega
    rw [hp] at h25
    refine awp_cond (b := true) (by simp [alook, aput, ev]) ?_
    refine awp_seq ?_
    refine awp_region rfl ?_
    refine aops_run 1 (by simp only [fwA, seval, gfw, bx, dx, bitfw] <;> rfl) ?_
    refine aops_fn rfl rfl rfl en52 h25 ?_
    refine aops_run 1 (by simp only [fwA, seval, gfw, bx, dx, bitfw] <;> rfl) ?_
    refine aops_end ?_
    refine awp_ret ?_
    simp only [Post.then]
    exact calls_end0 (p := .int .i64 (((-1 - a).toNat : Nat) : Int)) (.inl rfl) hbd rfl rfl ⟨rfl, rfl⟩
  rw [if_neg h0]
  rw [decide_eq_false h0]
  refine awp_cond (b := false) (by simp [alook, aput, ev]) (awp_skip ?_)
  obtain ⟨k, hk⟩ := List.getElem?_of_mem (hav (by omega))
  have hkl := (List.getElem?_eq_some_iff.1 hk).1
  refine awp_seq ?_
  refine awp_region rfl ?_
  refine aops_run 3 (by simp only [fwA, seval, gfw, bx, dx, bitfw, h1, h2] <;> rfl) ?_
  refine aops_one rfl (os_lookup (r := some (k, .int .i64 (k : Int))) (z := .int .i64 0) rfl un91 un28' rfl rfl h4 ((mfind1 a _ 0).trans (by rw [atL_find hn hk])) (fun h => by cases h) ?_)
  refine aops_one rfl (os_idxRow (i := k) So.enc_len rfl el27 rfl rfl h3 (by rw [hsl]; omega) hkl ?_)
  refine aops_run 1 (by simp only [fwA, seval, gfw, bx, dx, bitfw] <;> rfl) ?_
  refine aops_one rfl (os_load (p := .int .i64 ((σ a : Nat) : Int)) rfl ti3 (cs := ((((solW vs σ).map So.enc).flatten).drop (k * 2 + 1))) (by
    show (match H[r]? with
      | some (.row _ cs) => if cs.length = (solW vs σ).length * 2 then some (cs.drop (k * 2 + 1)) else none
      | _ => none) = _
    rw [h3]
    simp only [flat_len So.enc_len, ↓reduceIte]) (by rw [if_neg (by decide)]; exact so_drop (solW_get hk)) ?_)
  refine aops_run 1 (by simp only [fwA, seval, gfw, bx, dx, bitfw] <;> rfl) ?_
  refine aops_end ?_
  refine awp_ret ?_
  exact calls_end0 (p := .int .i64 ((σ a : Nat) : Int)) (.inl rfl) hbd rfl rfl ⟨rfl, rfl⟩
end Go.Proofs.YteicbhkimepbaaaGreatDoor
namespace Go.Proofs.YteicbhkimepbaaaGreatDoor
set_option linter.unusedVariables false
set_option linter.unusedSimpArgs false
set_option maxRecDepth 100000
open Go.RowKit Fw
structure FromOk (c : List Pr) (es : List (Int × Nat)) (L : List Blk) : Prop where
  k1 : (es.map (·.1)).Nodup
  k2 : (es.map (·.2)).Nodup
  k3 : ∀ p ∈ c, ∃ x ∈ es, x.1 = p.a
  k4 : ∀ x ∈ es, L[x.2]? = some (.row 2 (((fl c x.1).map Pr.enc).flatten))
def mapOf (N : Nat) (es : List (Int × Nat)) (c : List Pr) : List (Int × PV) := es.map fun x => (x.1, PV.row (N + x.2) 0 (fl c x.1).length 2)
theorem mapOf_keys (N : Nat) (es : List (Int × Nat)) (c : List Pr) : (mapOf N es c).map (·.1) = es.map (·.1) := by
  unfold mapOf; rw [List.map_map]; rfl
theorem from_nil : FromOk [] [] [] := ⟨List.nodup_nil, List.nodup_nil, (fun _ h => by cases h), fun _ h => by cases h⟩
theorem from_find {c : List Pr} {es : List (Int × Nat)} {L : List Blk} (h : FromOk c es L) (N : Nat) (a : Int) : (find1 a (mapOf N es c) 0 = none ∧ (∀ x ∈ es, x.1 ≠ a) ∧ fl c a = []) ∨ ∃ k j, es[k]? = some (a, j) ∧ find1 a (mapOf N es c) 0 = some (k, .row (N + j) 0 (fl c a).length 2) := by
  by_cases hm : ∃ x ∈ es, x.1 = a
  · obtain ⟨⟨a', j⟩, hx, rfl⟩ := hm
    obtain ⟨k, hk⟩ := List.getElem?_of_mem hx
    refine .inr ⟨k, j, hk, ?_⟩
    have h1 : (mapOf N es c)[k]? = some (a', .row (N + j) 0 (fl c a').length 2) := by unfold mapOf; rw [List.getElem?_map, hk]; rfl
    have := find1_at (i := 0) h1 (by rw [mapOf_keys]; exact h.k1)
    rwa [Nat.zero_add] at this
  · have hn : ∀ x ∈ es, x.1 ≠ a := fun x hx e => hm ⟨x, hx, e⟩
    refine .inl ⟨find1_none fun y hy => ?_, hn, ?_⟩
    · obtain ⟨x, hx, rfl⟩ := List.mem_map.1 hy
      exact hn x hx
    · refine List.eq_nil_iff_forall_not_mem.2 fun p hp => ?_
      obtain ⟨hp1, hp2⟩ := fl_mem.1 hp
      obtain ⟨x, hx, e⟩ := h.k3 p hp1
      exact hn x hx (e.trans hp2)
theorem from_len {c : List Pr} {es : List (Int × Nat)} {L : List Blk} (h : FromOk c es L) {x : Int × Nat} (hx : x ∈ es) : x.2 < L.length := (List.getElem?_eq_some_iff.1 (h.k4 x hx)).1
theorem from_new {c : List Pr} {es : List (Int × Nat)} {L : List Blk} (h : FromOk c es L) {p : Pr} (hn : ∀ x ∈ es, x.1 ≠ p.a) (h0 : fl c p.a = []) (B : Blk) : FromOk (c ++ [p]) (es ++ [(p.a, L.length + 1)]) (L ++ [B, .row 2 p.enc]) := by
  refine ⟨?_, ?_, fun q hq => ?_, fun x hx => ?_⟩
  · rw [List.map_append, List.nodup_append]
    refine ⟨h.k1, by simp, fun a ha b hb e => ?_⟩
    obtain ⟨x, hx, rfl⟩ := List.mem_map.1 ha
    simp only [List.map_cons, List.map_nil, List.mem_singleton] at hb
    exact hn x hx (e.trans hb)
  · rw [List.map_append, List.nodup_append]
    refine ⟨h.k2, by simp, fun a ha b hb e => ?_⟩
    obtain ⟨x, hx, rfl⟩ := List.mem_map.1 ha
    simp only [List.map_cons, List.map_nil, List.mem_singleton] at hb
    have := from_len h hx
    omega
  · rcases List.mem_append.1 hq with hq | hq
    · obtain ⟨x, hx, e⟩ := h.k3 q hq
      exact ⟨x, List.mem_append_left _ hx, e⟩
    · rw [List.mem_singleton.1 hq]
      exact ⟨_, List.mem_append_right _ (List.mem_singleton.2 rfl), rfl⟩
  · rcases List.mem_append.1 hx with hx | hx
    · rw [List.getElem?_append_left (from_len h hx), h.k4 x hx, fl_snoc, if_neg (fun e => hn x hx e.symm)]
    · rw [List.mem_singleton.1 hx, List.getElem?_append_right (by simp), fl_snoc, if_pos rfl, h0]
      simp
theorem from_new_map {c : List Pr} {es : List (Int × Nat)} {p : Pr} (hn : ∀ x ∈ es, x.1 ≠ p.a) (h0 : fl c p.a = []) (N k : Nat) : mapOf N (es ++ [(p.a, k)]) (c ++ [p]) = mapOf N es c ++ [(p.a, .row (N + k) 0 1 2)] := by
  unfold mapOf
  rw [List.map_append]
  congr 1
  · refine List.map_congr_left fun x hx => ?_
    rw [fl_snoc, if_neg (fun e => hn x hx e.symm)]
  · simp [fl_snoc, h0]
theorem from_old {c : List Pr} {es : List (Int × Nat)} {L : List Blk} (h : FromOk c es L) {p : Pr} {k j : Nat} (hk : es[k]? = some (p.a, j)) (B : Blk) : FromOk (c ++ [p]) es ((L ++ [B]).set j (.row 2 (((fl c p.a).map Pr.enc).flatten ++ p.enc))) := by
  have hm := List.mem_of_getElem? hk
  have hj := from_len h hm
  refine ⟨h.k1, h.k2, fun q hq => ?_, fun x hx => ?_⟩
  · rcases List.mem_append.1 hq with hq | hq
    · exact h.k3 q hq
    · rw [List.mem_singleton.1 hq]
      exact ⟨_, hm, rfl⟩
  · by_cases e : x.2 = j
    · have hxe : x = (p.a, j) := by
        obtain ⟨i, hi⟩ := List.getElem?_of_mem hx
        have h1 := List.getElem?_eq_some_iff.1 hi
        have h2 := List.getElem?_eq_some_iff.1 hk
        have hik : i = k := by
          have a1 : (es.map (·.2))[i]'(by rw [List.length_map]; exact h1.1) = x.2 := by rw [List.getElem_map, h1.2]
          have a2 : (es.map (·.2))[k]'(by rw [List.length_map]; exact h2.1) = j := by rw [List.getElem_map, h2.2]
          exact (List.getElem_inj h.k2).1 (a1.trans (e.trans a2.symm))
        subst hik
        rw [hi] at hk; exact Option.some.inj hk
      subst hxe
      rw [List.getElem?_set_self (by simp; omega), fl_snoc, if_pos rfl]
      simp
    · have hne : x.1 ≠ p.a := fun e1 => e (by
        obtain ⟨i, hi⟩ := List.getElem?_of_mem hx
        have h1 := List.getElem?_eq_some_iff.1 hi
        have h2 := List.getElem?_eq_some_iff.1 hk
        have a1 : (es.map (·.1))[i]'(by rw [List.length_map]; exact h1.1) = x.1 := by rw [List.getElem_map, h1.2]
        have a2 : (es.map (·.1))[k]'(by rw [List.length_map]; exact h2.1) = p.a := by rw [List.getElem_map, h2.2]
        have hik : i = k := (List.getElem_inj h.k1).1 (a1.trans (e1.trans a2.symm))
        subst hik
        rw [hi] at hk; rw [Option.some.inj hk])
      rw [List.getElem?_set_ne (Ne.symm e), List.getElem?_append_left (from_len h hx), h.k4 x hx, fl_snoc, if_neg (fun e => hne e.symm)]
theorem from_old_map {c : List Pr} {es : List (Int × Nat)} {L : List Blk} (h : FromOk c es L) {p : Pr} {k j : Nat} (hk : es[k]? = some (p.a, j)) (N : Nat) : mapOf N es (c ++ [p]) = (mapOf N es c).set k (p.a, .row (N + j) 0 ((fl c p.a).length + 1) 2) := by
  refine List.ext_getElem? fun i => ?_
  by_cases e : k = i
  · subst e
    have hl := (List.getElem?_eq_some_iff.1 hk).1
    rw [List.getElem?_set_self (by unfold mapOf; rw [List.length_map]; exact hl)]
    unfold mapOf
    rw [List.getElem?_map, hk]
    simp [fl_snoc]
  · rw [List.getElem?_set_ne e]
    unfold mapOf
    rw [List.getElem?_map, List.getElem?_map]
    cases hi : es[i]? with
    | none => rfl
    | some x =>
      simp only [Option.map_some]
      have hne : x.1 ≠ p.a := fun e1 => e (by
        have h1 := List.getElem?_eq_some_iff.1 hi
        have h2 := List.getElem?_eq_some_iff.1 hk
        have a1 : (es.map (·.1))[i]'(by rw [List.length_map]; exact h1.1) = x.1 := by rw [List.getElem_map, h1.2]
        have a2 : (es.map (·.1))[k]'(by rw [List.length_map]; exact h2.1) = p.a := by rw [List.getElem_map, h2.2]
        exact (List.getElem_inj h.k1).1 (a2.trans (e1.symm.trans a1.symm)))
      rw [fl_snoc, if_neg (fun e => hne e.symm)]
theorem from_mono {c : List Pr} {es : List (Int × Nat)} {L : List Blk} (h : FromOk c es L) (X : List Blk) : FromOk c es (L ++ X) :=
  ⟨h.k1, h.k2, h.k3, fun x hx => by rw [List.getElem?_append_left (from_len h hx)]; exact h.k4 x hx⟩
theorem from_set {c : List Pr} {es : List (Int × Nat)} {L : List Blk} (h : FromOk c es L) {j : Nat} (hj : ∀ x ∈ es, x.2 ≠ j) (B : Blk) : FromOk c es (L.set j B) :=
  ⟨h.k1, h.k2, h.k3, fun x hx => by rw [List.getElem?_set_ne (hj x hx).symm]; exact h.k4 x hx⟩
theorem take_snoc {X : Type} {l : List X} {i : Nat} {x : X} (h : l[i]? = some x) : l.take (i + 1) = l.take i ++ [x] := by rw [List.take_add_one, h]; rfl
end Go.Proofs.YteicbhkimepbaaaGreatDoor
namespace Go.Proofs.YteicbhkimepbaaaGreatDoor
set_option linter.unusedVariables false
set_option linter.unusedSimpArgs false
set_option maxRecDepth 100000
open Go.RowKit Fw
inductive Rch (c : List Pr) (a : Int) : Int → Prop
  | refl : Rch c a a
  | step {p : Pr} : Rch c a p.a → (p.a = a ∨ 0 ≤ p.a) → p ∈ c → Rch c a p.b
inductive VP (c : List Pr) : Int → Int → Prop
  | one {p : Pr} : p ∈ c → VP c p.a p.b
  | more {x : Int} {p : Pr} : VP c x p.a → 0 ≤ p.a → p ∈ c → VP c x p.b
variable {c d : List Pr} {a b x y : Int}
theorem VP.trans (h1 : VP c a b) (h0 : 0 ≤ b) (h2 : VP c b x) : VP c a x := by
  generalize hb : b = b' at h2
  induction h2 with
  | one h => subst hb; exact .more h1 h0 h
  | more _ k1 k2 ih => exact .more (ih hb) k1 k2
theorem VP.mono (hs : ∀ p ∈ c, p ∈ d) (h : VP c a x) : VP d a x := by
  induction h with
  | one h => exact .one (hs _ h)
  | more _ k1 k2 ih => exact .more ih k1 (hs _ k2)
def flp (c : List Pr) : List Pr := c.map fun p => ⟨p.b, p.a⟩
theorem VP.head {p : Pr} (h : VP c p.b x) (h0 : 0 ≤ p.b) (hp : p ∈ c) : VP c p.a x := (VP.one hp).trans h0 h
def addB (m : List Int) (p : Pr) : List Int := if p.b ∈ m then m else m ++ [p.b]
def expd (c : List Pr) (m : List Int) (x : Int) : List Int := (c.filter fun p => decide (p.a = x)).foldl addB m
def bfs (c : List Pr) (a : Int) : Nat → List Int
  | 0 => [a]
  | i + 1 => match (bfs c a i)[i]? with
    | none => bfs c a i
    | some x => if x < 0 ∧ x ≠ a then bfs c a i else expd c (bfs c a i) x
def abv (c : List Pr) (a : Int) : List Int := bfs c a (c.length + 1)
end Go.Proofs.YteicbhkimepbaaaGreatDoor
namespace Go.Proofs.YteicbhkimepbaaaGreatDoor.Fw
set_option linter.unusedVariables false
set_option linter.unusedSimpArgs false
set_option maxRecDepth 100000
open Go.RowKit
section
variable {P : Program} {Γ : Nat → PV} {A : List (Nat × PV)} {H : List Blk}
theorem Told.trans {A1 A2 A3 : List (Nat × PV)} {H1 H2 H3 : List Blk} (h : Told Γ A1 H1 A2 H2) (k : Told Γ A2 H2 A3 H3) : Told Γ A1 H1 A3 H3 :=
  ⟨Nat.le_trans h.1 k.1, fun w0 G w N a hs ha => by
    obtain ⟨G1, s1, a1, e1⟩ := h.2 w0 G w N a hs ha
    obtain ⟨G2, s2, a2, e2⟩ := k.2 w0 G1 w N a s1 a1
    exact ⟨G2, s2, a2, e1.trans e2 h.1⟩⟩
theorem Told.refl (A : List (Nat × PV)) (H : List Blk) : Told Γ A H A H := ⟨Nat.le_refl _, fun w0 G w N a hs ha => ⟨G, hs, ha, Evol.refl _ _⟩⟩
def frzM (b sz : Nat) (C : List PV) (B : Blk) : Blk :=
  match B with
  | .box cs => .box (cs.map (frz b sz C))
  | .map es => .map (es.map fun e => (e.1, frz b sz C e.2))
  | _ => B
end
end Go.Proofs.YteicbhkimepbaaaGreatDoor.Fw
namespace Go.Proofs.YteicbhkimepbaaaGreatDoor
set_option linter.unusedVariables false
set_option linter.unusedSimpArgs false
set_option maxRecDepth 100000
open Go.RowKit Fw
def encB (p : Pr) : List PV := I1 p.b
structure GrOk (c : List Pr) (es : List (Int × Nat)) (L : List Blk) : Prop where
  k1 : (es.map (·.1)).Nodup
  k2 : (es.map (·.2)).Nodup
  k3 : ∀ p ∈ c, ∃ x ∈ es, x.1 = p.a
  k4 : ∀ x ∈ es, L[x.2]? = some (.row 1 (((fl c x.1).map encB).flatten))
def mapR (N : Nat) (es : List (Int × Nat)) (c : List Pr) : List (Int × PV) := es.map fun x => (x.1, PV.row (N + x.2) 0 (fl c x.1).length 1)
def mixM (N : Nat) (es : List (Int × Nat)) (c : List Pr) (i : Nat) : List (Int × PV) := ((es.take i).map fun x => (x.1, PV.vec ((fl c x.1).map encB) false)) ++ mapR N (es.drop i) c
def mapV (es : List (Int × Nat)) (c : List Pr) : List (Int × PV) := es.map fun x => (x.1, PV.vec ((fl c x.1).map encB) false)
def GraphOk (c : List Pr) (g : List (Int × PV)) : Prop := ∀ x : Int, (find1 x g 0 = none ∧ fl c x = []) ∨ ∃ k, find1 x g 0 = some (k, .vec ((fl c x).map encB) false)
def keysA (c : List Pr) : List Int := (flp c).foldl addB []
def graphV (c : List Pr) : List (Int × PV) := (keysA c).map fun x => (x, PV.vec ((fl c x).map encB) false)
end Go.Proofs.YteicbhkimepbaaaGreatDoor
namespace Go.Proofs.YteicbhkimepbaaaGreatDoor.Fw
set_option linter.unusedVariables false
set_option linter.unusedSimpArgs false
set_option maxRecDepth 100000
open Go.RowKit
section
variable {P : Program} {Γ : Nat → PV} {ops : Array Oper} {cls : List Nat} {n0 : View} {K : List (Nat × PV) → List Blk → Prop} {i : Nat} {o : Oper} {rest : List (Nat × Oper)} {A : List (Nat × PV)} {H : List Blk}
theorem vw_get {H2 : List Blk} {b : Nat} (h : n0.vw H2 = n0.vw H) (hb : b < n0.n) (hx : n0.x ≠ some b) : H2[b]? = H[b]? := by
  have := congrArg (·[b]?) h
  unfold View.vw at this
  cases e : n0.x with
  | none => rw [e] at this; simpa [List.getElem?_take_of_lt hb] using this
  | some c =>
    rw [e] at this hx
    have hne : c ≠ b := fun h => hx (by rw [h])
    simpa [List.getElem?_set_ne hne, List.getElem?_take_of_lt hb] using this
theorem dops_at4 (p : PV) (hw : wantA ops A o = some true) (hc : cls.getD i 0 = 4)
    (h : ∀ H2 : List Blk, n0.n ≤ H2.length → n0.vw H2 = n0.vw H → ∀ A', (∀ x ∈ o.op.operands, ev Γ A' x = ev Γ A x) → OStep P Γ o A' H2 (fun q H1 => q = p ∧ H1 = H2)) (hk : DOps P Γ ops cls n0 K rest (aput A o.dst p) H) : DOps P Γ ops cls n0 K ((i, o) :: rest) A H := by
  refine ⟨p, H, ?_, hk⟩
  unfold DOne
  rw [hw, hc]
  exact ⟨rfl, fun H2 k1 k2 => dlift fun A' hev => h H2 k1 k2 A' hev⟩
theorem dops_appendX {x y : Operand} {t tx e : TypeId} {d : TypeDesc} {ti : TI} {b q k : Nat} {cs xs : List PV} {n : Nat} {es : List (List PV)} {f : Bool} (ho : o.op = .call { callee := .builtin .append, args := #[x, y], argTypes := #[t, tx] })
    (hw : wantA ops A o = some true) (hc : cls.getD i 0 = 5) (ht : P.underlying t = some (.slice e)) (he : tiOf P e = some ti) (htx : P.underlying tx = some d) (hd : (∃ e, d = .slice e) ∨ d = .string) (hx : ev Γ A x = .row b q k ti.size) (hbk : H[b]? = some (.row ti.size cs)) (hl : cs.length = q + k * ti.size)
    (hy : ev Γ A y = .vec es f) (hy2 : srcOf [] ti.size (.vec es f) = some xs) (hyv : ∀ e ∈ es, e.length = ti.size) (hn : alen (.vec es f) = some n) (hbd : (k + n) * ti.bytes ≤ 140737488355328) (hbd' : k + n ≤ 9223372036854775807) (h1 : n0.x = some b) (h2 : b < n0.n)
    (hk : DOps P Γ ops cls n0 K rest (aput A o.dst (.row b q (k + n) ti.size)) (H.set b (.row ti.size (cs ++ xs)))) : DOps P Γ ops cls n0 K ((i, o) :: rest) A H := by
  refine ⟨_, _, ?_, hk⟩
  unfold DOne
  rw [hw, hc]
  refine ⟨b, _, h1, h2, (List.getElem?_eq_some_iff.1 hbk).1, rfl, fun H2 k1 k2 => dlift fun A' hev => ?_⟩
  have ex := hev x (call_ops ho (by simp))
  have ey := (hev y (call_ops ho (by simp))).trans hy
  exact os_appendR ho ht he htx hd (ex.trans hx) (k2.trans hbk) hl (by rw [ey]; exact hy2) (fun es' f' e => by rw [ey] at e; cases e; exact hyv) (by rw [ey]; exact hn) hbd hbd' ⟨rfl, rfl⟩
end
theorem dops_rcall {P : Program} {Γ : Nat → PV} {ops : Array Oper} {cls : List Nat} {n0 : View} {K : List (Nat × PV) → List Blk → Prop} {i : Nat} {o : Oper} {rest : List (Nat × Oper)} {A : List (Nat × PV)} {H : List Blk} {x : Operand} {args : Array Operand} {ts : Array TypeId} {f : FuncId} {fs cs : List PV} {p : PV}
    (ho : o.op = .call { callee := .value x, args := args, argTypes := ts }) (hw : wantA ops A o = some true) (hc : cls.getD i 0 = 1) (hx : ev Γ A x = .func (.func f) fs cs) (he : Enters P f)
    (h : ACalls P Γ f (fs ++ args.toList.map (ev Γ A) ++ cs) H (fun q H1 => q = p ∧ H1 = H)) (hk : DOps P Γ ops cls n0 K rest (aput A o.dst p) H) : DOps P Γ ops cls n0 K ((i, o) :: rest) A H :=
  dops_reads p hw hc (fun A' hev => by
    have hops : ∀ y, y = x ∨ y ∈ args → ev Γ A' y = ev Γ A y := fun y hy => hev y (by
      rw [ho]
      simp only [Op.operands, Call.operands, Array.mem_append]
      rcases hy with rfl | hy
      · exact .inl (by simp)
      · exact .inr hy)
    refine os_call ho (by rw [hops x (.inl rfl)]; exact hx) he ?_
    rw [List.map_congr_left (l := args.toList) fun y hy => hops y (.inr (by simpa using hy))]
    exact h) hk
end Go.Proofs.YteicbhkimepbaaaGreatDoor.Fw
namespace Go.Proofs.YteicbhkimepbaaaGreatDoor
set_option linter.unusedVariables false
set_option linter.unusedSimpArgs false
set_option maxRecDepth 100000
open Go.RowKit Fw
def baseL (n : Nat) (ns : List (List UInt8)) (us : List Nat) (js : List ((Int × Int) × PV)) (vs : List Int) (F : List (PV × PV)) (sl : List So) : List Blk :=
  [.box [.vec (ns.map S1) false, .vec (us.map U1) false], .map (js.map enc2), .box [.vec (ns.map S1) false, .vec (us.map U1) false, .map (n + 1)], .map ((atL vs).map enc1), .box [.map (n + 3)], .map F, .box [.row (n + 7) 0 vs.length 2], .row 2 ((sl.map So.enc).flatten)]
section
variable {H L : List Blk} {n : Nat} {ns : List (List UInt8)} {us : List Nat} {js : List ((Int × Int) × PV)} {vs : List Int} {F : List (PV × PV)} {sl : List So}
theorem base_len : (H ++ (baseL n ns us js vs F sl ++ L)).length = H.length + 8 + L.length := by simp [baseL]; omega
theorem base_get (k : Nat) (hk : k < 8) : (H ++ (baseL n ns us js vs F sl ++ L))[H.length + k]? = (baseL n ns us js vs F sl)[k]? := by
  rw [List.getElem?_append_right (by omega), Nat.add_sub_cancel_left, List.getElem?_append_left (by simpa [baseL] using hk)]
theorem base_tail (j : Nat) : (H ++ (baseL n ns us js vs F sl ++ L))[H.length + 8 + j]? = L[j]? := by
  rw [List.getElem?_append_right (by omega), show H.length + 8 + j - H.length = 8 + j by omega, List.getElem?_append_right (by simp [baseL])]
  congr 1
  simp [baseL]
theorem base_set {k : Nat} (hk : k < 8) (B : Blk) : (H ++ (baseL n ns us js vs F sl ++ L)).set (H.length + k) B = H ++ ((baseL n ns us js vs F sl).set k B ++ L) := by
  rw [List.set_append_right _ _ (by omega), Nat.add_sub_cancel_left, List.set_append_left _ _ (by simpa [baseL] using hk)]
theorem base_set1 (js' : List ((Int × Int) × PV)) : (H ++ (baseL n ns us js vs F sl ++ L)).set (H.length + 1) (.map (js'.map enc2)) = H ++ (baseL n ns us js' vs F sl ++ L) := base_set (by decide) _
theorem base_set5 (F' : List (PV × PV)) : (H ++ (baseL n ns us js vs F sl ++ L)).set (H.length + 5) (.map F') = H ++ (baseL n ns us js vs F' sl ++ L) := base_set (by decide) _
theorem base_set7 (sl' : List So) : (H ++ (baseL n ns us js vs F sl ++ L)).set (H.length + 7) (.row 2 ((sl'.map So.enc).flatten)) = H ++ (baseL n ns us js vs F sl' ++ L) := base_set (by decide) _
theorem base_set8 (j : Nat) (B : Blk) : (H ++ (baseL n ns us js vs F sl ++ L)).set (H.length + 8 + j) B = H ++ (baseL n ns us js vs F sl ++ L.set j B) := by
  rw [List.set_append_right _ _ (by omega), show H.length + 8 + j - H.length = 8 + j by omega, List.set_append_right _ _ (by simp [baseL])]
  congr 3
  simp [baseL]
end
theorem so_put {l : List So} {k : Nat} {x : So} (m : Int) (h : l[k]? = some x) : splice ((l.map So.enc).flatten) (k * 2 + 1) [.int .i64 m] = ((l.set k ⟨x.v, m⟩).map So.enc).flatten := by
  obtain ⟨hk, hx⟩ := List.getElem?_eq_some_iff.1 h
  have e : l = l.take k ++ x :: l.drop (k + 1) := by rw [← hx, ← List.drop_eq_getElem_cons hk, List.take_append_drop]
  have hlen : (((l.take k).map So.enc).flatten).length = k * 2 := by rw [flat_len So.enc_len, List.length_take, Nat.min_eq_left (by omega)]
  have e1 : ((l.map So.enc).flatten) = ((l.take k).map So.enc).flatten ++ ([.int .i64 x.v, .int .i64 x.p] ++ ((l.drop (k + 1)).map So.enc).flatten) := by
    conv => lhs; rw [e]
    rw [List.map_append, List.flatten_append, List.map_cons, List.flatten_cons]; rfl
  have e2 : (((l.set k ⟨x.v, m⟩).map So.enc).flatten) = ((l.take k).map So.enc).flatten ++ ([.int .i64 x.v, .int .i64 m] ++ ((l.drop (k + 1)).map So.enc).flatten) := by
    rw [List.set_eq_take_append_cons_drop, if_pos hk, List.map_append, List.flatten_append, List.map_cons, List.flatten_cons]; rfl
  rw [e1, e2]
  generalize ((l.take k).map So.enc).flatten = A at hlen
  unfold splice
  rw [← hlen, List.take_length_add_append, show A.length + 1 + [PV.int .i64 m].length = A.length + 2 by rfl, List.drop_length_add_append]
  simp
theorem solW_upd {vs : List Int} (hn : vs.Nodup) {k : Nat} {b : Int} (h : vs[k]? = some b) (σ : Int → Nat) (j : Nat) : (solW vs σ).set k ⟨b, ((j : Nat) : Int)⟩ = solW vs (upd σ b j) := by
  obtain ⟨hk, hb⟩ := List.getElem?_eq_some_iff.1 h
  refine List.ext_getElem? fun i => ?_
  unfold solW
  by_cases e : k = i
  · subst e
    rw [List.getElem?_set_self (by simpa using hk), List.getElem?_map, h]
    simp [upd]
  · rw [List.getElem?_set_ne e, List.getElem?_map, List.getElem?_map]
    cases hi : vs[i]? with
    | none => rfl
    | some v =>
      have hne : v ≠ b := fun ev => e (by
        obtain ⟨h1, h2⟩ := List.getElem?_eq_some_iff.1 hi
        exact (List.getElem_inj hn).1 (hb.trans (ev.symm.trans h2.symm)))
      simp [upd, hne]
theorem z22 : zero1 Tryz.prog 26 = some (.vec [] true) := by kernel_rfl
def leastEnc (x : List So × Bool) : PV := .tup [.vec (x.1.map So.enc) false, .bool x.2]
theorem atL_snoc {vs : List Int} {i : Nat} {v : Int} (h : vs[i]? = some v) : atL (vs.take (i + 1)) = atL (vs.take i) ++ [(v, .int .i64 (i : Int))] := by
  have hi := (List.getElem?_eq_some_iff.1 h).1
  unfold atL
  rw [List.take_add_one, h, List.zipIdx_append, List.map_append]
  simp [List.length_take, Nat.min_eq_left (Nat.le_of_lt hi)]
theorem solW_snoc {vs : List Int} {σ : Int → Nat} {i : Nat} {v : Int} (h : vs[i]? = some v) : solW (vs.take (i + 1)) σ = solW (vs.take i) σ ++ [⟨v, ((σ v : Nat) : Int)⟩] := by
  unfold solW
  rw [List.take_add_one, h, List.map_append]; rfl
theorem at_new {vs : List Int} {i : Nat} {v : Int} (hn : vs.Nodup) (h : vs[i]? = some v) : find1 v (atL (vs.take i)) 0 = none := by
  refine find1_none fun x hx e => ?_
  have hm : v ∈ vs.take i := by
    rw [← atL_keys (vs.take i)]
    exact List.mem_map.2 ⟨x, hx, e⟩
  obtain ⟨j, hj⟩ := List.getElem?_of_mem hm
  have hji : j < i := by
    have := (List.getElem?_eq_some_iff.1 hj).1
    rw [List.length_take] at this; omega
  rw [List.getElem?_take_of_lt hji] at hj
  have h1 := List.getElem?_eq_some_iff.1 h
  have h2 := List.getElem?_eq_some_iff.1 hj
  have := (List.getElem_inj hn).1 (h2.2.trans h1.2.symm)
  omega
theorem onceI_nodup (c : List Pr) : (gath gV c).Nodup := (onceI_rise _).imp fun h e => by omega
set_option maxHeartbeats 16000000 in
theorem c14 (Γ : Nat → PV) (hΓ : Tab64 Γ) (ns : List (List UInt8)) (us : List Nat) (hw : W64 us) (c : List Pr) (hl : c.length ≤ 10000000) (ho : OkP c) : Gives Tryz.prog Γ 14 [.agg [.vec (ns.map S1) false, .vec (us.map U1) false], .vec (c.map Pr.enc) false] (leastEnc (leastV ns us c)) := by
  have h22 := c17 Γ hΓ ns us hw c (by omega) ho
  have h19 := c50 Γ hΓ ns us hw
  have h17 := c40 Γ c false (by omega)
  refine fn_of_awp Tryz.func14 rfl (by simp [Tryz.f14]) rfl fun H => ?_
  have hfin : ∀ (A' : List (Nat × PV)) (K2 : List Blk) (s : List So) (ok : Bool), (∃ L, K2 = H ++ L) → alook A' 4 = .vec (s.map So.enc) false → alook A' 5 = .bool ok → IsLeast ns us c (s, ok) → ((Exit.ret = .ret ∨ Exit.ret = .normal) ∧ ([] : List Nat).Nodup ∧ (∀ b ∈ ([] : List Nat), K2[b]? = some .dfr ∧ H.length ≤ b) ∧ ares Tryz.prog Γ A' K2 Tryz.f14.results.toList = some (leastEnc (leastV ns us c)) ∧ ∃ L', K2 = H ++ L') := fun A' K2 s ok hK2 h4 h5 hI => by
    obtain ⟨L, rfl⟩ := hK2
    rw [leastV_eq hI]
    exact gives_end (.inl rfl) _ (by simp [ares, aresL, ares1, Tryz.f14, h4, h5, leastEnc])
  refine awp_seq ?_
  refine awp_run rfl (by simp only [fwA, seval] <;> rfl) ?_
  refine awp_scope ?_
  refine awp_seq ?_
  refine awp_seq ?_
  cases hk : knownB ns us c
  · rw [hk] at h22
    refine awp_region rfl ?_
    refine aops_run 2 (by simp only [fwA, seval, gfw, bx, dx, bitfw] <;> rfl) ?_
    refine aops_fn rfl rfl rfl en17 h22 ?_
    refine aops_run 1 (by simp only [fwA, seval, gfw, bx, dx, bitfw] <;> rfl) ?_
    refine aops_end ?_
    refine awp_cond (b := true) (by simp [alook, aput, ev]) ?_
    refine awp_seq ?_
    refine awp_run rfl (by simp only [fwA, seval] <;> rfl) ?_
    refine awp_told (told_le 4 (.vec [] false) ⟨nofun, PV.leLL_refl _⟩) ?_
    refine awp_ret ?_
    exact hfin _ _ [] false ⟨_, rfl⟩ rfl rfl (.inl ⟨hk, rfl⟩)
  rw [hk] at h22
  obtain ⟨hR, hP⟩ := known_spec.1 hk
  obtain ⟨r1, r2, r3, r4, r5⟩ := right_spec hR
  obtain ⟨bot, eb, hbot⟩ := bot_nat hR
  rw [eb] at h19
  refine awp_region rfl ?_
  refine aops_run 2 (by simp only [fwA, seval, gfw, bx, dx, bitfw] <;> rfl) ?_
  refine aops_fn rfl rfl rfl en17 h22 ?_
  refine aops_run 1 (by simp only [fwA, seval, gfw, bx, dx, bitfw] <;> rfl) ?_
  refine aops_end ?_
  refine awp_cond (b := false) (by simp [alook, aput, ev]) (awp_skip ?_)
  refine awp_seq ?_
  refine awp_region rfl ?_
  refine aops_run 1 (by simp only [fwA, seval, gfw, bx, dx, bitfw] <;> rfl) ?_
  refine aops_one rfl (os_makeMap rfl ?_)
  refine aops_run 3 (by simp only [fwA, seval, gfw, bx, dx, bitfw] <;> rfl) ?_
  refine aops_end ?_
  refine awp_seq ?_
  refine awp_region rfl ?_
  refine aops_run 1 (by simp only [fwA, seval, gfw, bx, dx, bitfw] <;> rfl) ?_
  refine aops_fn rfl rfl rfl en50 h19 ?_
  refine aops_run 1 (by simp only [fwA, seval, gfw, bx, dx, bitfw] <;> rfl) ?_
  refine aops_end ?_
  refine awp_seq ?_
  refine awp_region rfl ?_
  refine aops_one rfl (os_makeMap rfl ?_)
  refine aops_run 2 (by simp only [fwA, seval, gfw, bx, dx, bitfw] <;> rfl) ?_
  refine aops_end ?_
  refine awp_seq ?_
  refine awp_region rfl ?_
  refine aops_one rfl (os_makeMap rfl ?_)
  refine aops_run 1 (by simp only [fwA, seval, gfw, bx, dx, bitfw] <;> rfl) ?_
  refine aops_end ?_
  refine awp_seq ?_
  refine awp_run rfl (by simp only [fwA, seval, gfw, bx, dx, bitfw] <;> rfl) ?_
  refine awp_told (told_adoptBox (H.length + 6) 0 2 (by decide) (cs := [.vec [] true]) (by simp) rfl) ?_
  have hvn := onceI_nodup c
  have hvl : (gath gV c).length ≤ 2 * c.length := by have := both_le c; omega
  generalize hvs : gath gV c = vs at h17 hvn hvl
  refine awp_heap (H' := H ++ [.box [.vec (ns.map S1) false, .vec (us.map U1) false], .map [], .box [.vec (ns.map S1) false, .vec (us.map U1) false, .map (H.length + 1)], .map ((atL (vs.take 0)).map enc1), .box [.map (H.length + 3)], .map [], .box [.row (H.length + 7) 0 0 2], .row 2 (((solW (vs.take 0) fun _ => bot).map So.enc).flatten)]) (by simp [atL, solW]) ?_
  refine awp_seq ?_
  refine awp_seq ?_
  refine awp_region rfl ?_
  refine aops_run 1 (by simp only [fwA, seval, gfw, bx, dx, bitfw] <;> rfl) ?_
  refine aops_fn rfl rfl rfl en40 h17 ?_
  refine aops_run 2 (by simp only [fwA, seval, gfw, bx, dx, bitfw] <;> rfl) ?_
  refine aops_end ?_
  refine awp_block ?_
  refine awp_for [1, 2, 6, 7, 8, 9, 10, 32, 33, 34] (fun i : Nat => [.vec (c.map Pr.enc) false, .ptr H.length 0, .ptr (H.length + 2) 0, .int .i64 (bot : Int), .ptr (H.length + 4) 0, .map (H.length + 5), .ptr (H.length + 6) 0, .vec (vs.map I1) false, .int .i64 (vs.length : Int), .int .i64 (i : Int)]) (fun i => H ++ [.box [.vec (ns.map S1) false, .vec (us.map U1) false], .map [], .box [.vec (ns.map S1) false, .vec (us.map U1) false, .map (H.length + 1)], .map ((atL (vs.take i)).map enc1), .box [.map (H.length + 3)], .map [], .box [.row (H.length + 7) 0 i 2], .row 2 (((solW (vs.take i) fun _ => bot).map So.enc).flatten)]) (fun i => vs.length - i) (fun i => i ≤ vs.length) 0 rfl rfl (Nat.zero_le _) fun i hil => ?_
  refine awp_seq ?_
  refine awp_run rfl (by simp only [fwA, seval, gfw, bx, dx, bitfw] <;> rfl) ?_
  refine awp_seq ?_
  refine awp_cond (by simp only [fwA, seval] <;> rfl) ?_
  by_cases hc : (i : Int) < vs.length
  · simp only [hc, decide_true, ↓reduceIte]
    refine awp_skip ?_
    have hi : i < vs.length := by omega
    have hwi : IntKind.i64.wrap ((i : Int) + 1) = ((i + 1 : Nat) : Int) := wrapS i (by omega)
    have gv : vs[i]? = some vs[i] := List.getElem?_eq_getElem hi
    generalize vs[i] = v at gv
    have hsl : (solW (vs.take i) fun _ => bot).length = i := by rw [solW_len, List.length_take]; omega
    refine awp_seq ?_
    refine awp_block ?_
    refine awp_seq ?_
    refine awp_run rfl (by simp only [fwA, seval, gfw, bx, dx, bitfw, gv] <;> rfl) ?_
    refine awp_seq ?_
    refine awp_region rfl ?_
    refine aops_run 3 (by simp only [fwA, seval, gfw, bx, dx, bitfw] <;> rfl) ?_
    refine aops_one rfl (os_mapUpdate (r := none) (.inl rfl) un91 un28' rfl rfl (Fw.get_at _ _ 3) ((mfind1 v _ 0).trans (by rw [at_new hvn gv])) ?_)
    refine aops_end ?_
    refine awp_heap (H' := H ++ [.box [.vec (ns.map S1) false, .vec (us.map U1) false], .map [], .box [.vec (ns.map S1) false, .vec (us.map U1) false, .map (H.length + 1)], .map ((atL (vs.take (i + 1))).map enc1), .box [.map (H.length + 3)], .map [], .box [.row (H.length + 7) 0 i 2], .row 2 (((solW (vs.take i) fun _ => bot).map So.enc).flatten)]) (by rw [atL_snoc gv, List.map_append]; simp [mput, enc1]; exact ⟨rfl, rfl⟩) ?_
    refine awp_region rfl ?_
    refine aops_run 5 (by simp only [fwA, seval, gfw, bx, dx, bitfw] <;> rfl) ?_
    refine aops_one rfl (os_appendR rfl un27 ti82 un27 (.inl ⟨_, rfl⟩) rfl (Fw.get_at _ _ 7) (by rw [flat_len So.enc_len, hsl]; exact (Nat.zero_add _).symm) rfl (fun es f h e he => by
      simp only [fwA, seval, PV.vec.injEq] at h
      obtain ⟨rfl, rfl⟩ := h
      simp only [List.mem_singleton] at he
      subst he; rfl) rfl (by show (_ + 1) * 16 ≤ _; omega) (by show _ + 1 ≤ _; omega) ?_)
    refine aops_run 1 (by simp only [fwA, seval, gfw, bx, dx, bitfw] <;> rfl) ?_
    refine aops_end ?_
    refine awp_run rfl (by simp only [fwA, seval] <;> rfl) ?_
    refine ⟨i + 1, by omega, by omega, ?_, ?_, rfl⟩
    · simp only [fwA, seval, gfw, hwi]
    · rw [solW_snoc gv]
      simp [So.enc]
  simp only [hc, decide_false, Bool.false_eq_true, ↓reduceIte]
  refine awp_exit ?_
  have e : i = vs.length := by omega
  subst e
  rw [List.take_length]
  refine awp_seq ?_
  refine awp_seq ?_
  refine awp_run rfl (by simp only [fwA, seval, gfw, bx, dx, bitfw] <;> rfl) ?_
  refine awp_block ?_
  refine awp_heap (H' := H ++ (baseL H.length ns us [] vs ((mapOf (H.length + 8) [] (c.take 0)).map enc1) (solW vs fun _ => bot) ++ [])) (by simp [baseL, mapOf]) ?_
  refine awp_for [1, 2, 6, 8, 9, 10, 49, 50, 51] (fun s : Nat × List (Int × Nat) × List Blk => [.vec (c.map Pr.enc) false, .ptr H.length 0, .ptr (H.length + 2) 0, .ptr (H.length + 4) 0, .map (H.length + 5), .ptr (H.length + 6) 0, .vec (c.map Pr.enc) false, .int .i64 (c.length : Int), .int .i64 (s.1 : Int)]) (fun s => H ++ (baseL H.length ns us [] vs ((mapOf (H.length + 8) s.2.1 (c.take s.1)).map enc1) (solW vs fun _ => bot) ++ s.2.2)) (fun s => c.length - s.1) (fun s => s.1 ≤ c.length ∧ FromOk (c.take s.1) s.2.1 s.2.2) (0, [], []) rfl rfl ⟨Nat.zero_le _, from_nil⟩ fun ⟨i, es, L⟩ ⟨hil, hF⟩ => ?_
  simp only at hil hF ⊢
  refine awp_seq ?_
  refine awp_run rfl (by simp only [fwA, seval, gfw, bx, dx, bitfw] <;> rfl) ?_
  refine awp_seq ?_
  refine awp_cond (by simp only [fwA, seval] <;> rfl) ?_
  by_cases hc : (i : Int) < c.length
  · simp only [hc, decide_true, ↓reduceIte]
    refine awp_skip ?_
    have hi : i < c.length := by omega
    have hwi : IntKind.i64.wrap ((i : Int) + 1) = ((i + 1 : Nat) : Int) := wrapS i (by omega)
    have gp : c[i]? = some c[i] := List.getElem?_eq_getElem hi
    generalize c[i] = p at gp
    have hts := take_snoc gp
    have hKl := base_len (H := H) (L := L) (n := H.length) (ns := ns) (us := us) (js := []) (vs := vs) (F := (mapOf (H.length + 8) es (c.take i)).map enc1) (sl := solW vs fun _ => bot)
    have g5 := base_get (H := H) (L := L) (n := H.length) (ns := ns) (us := us) (js := []) (vs := vs) (F := (mapOf (H.length + 8) es (c.take i)).map enc1) (sl := solW vs fun _ => bot) 5 (by decide)
    have g8 : ∀ j, (H ++ (baseL H.length ns us [] vs ((mapOf (H.length + 8) es (c.take i)).map enc1) (solW vs fun _ => bot) ++ L))[H.length + 8 + j]? = L[j]? := fun j => base_tail j
    have hset : ∀ F', (H ++ (baseL H.length ns us [] vs ((mapOf (H.length + 8) es (c.take i)).map enc1) (solW vs fun _ => bot) ++ L)).set (H.length + 5) (.map F') = H ++ (baseL H.length ns us [] vs F' (solW vs fun _ => bot) ++ L) := fun F' => base_set5 F'
    have hset8 : ∀ j B F', j < L.length → ((H ++ (baseL H.length ns us [] vs ((mapOf (H.length + 8) es (c.take i)).map enc1) (solW vs fun _ => bot) ++ L)).set (H.length + 8 + j) B).set (H.length + 5) (.map F') = H ++ (baseL H.length ns us [] vs F' (solW vs fun _ => bot) ++ L.set j B) := fun j B F' _ => by rw [base_set8, base_set5]
    generalize hK : H ++ (baseL H.length ns us [] vs ((mapOf (H.length + 8) es (c.take i)).map enc1) (solW vs fun _ => bot) ++ L) = K at hKl g5 g8 hset hset8 ⊢
    refine awp_seq ?_
    refine awp_block ?_
    refine awp_seq ?_
    refine awp_run rfl (by simp only [fwA, seval, gfw, bx, dx, bitfw, gp] <;> rfl) ?_
    have gq : (K ++ [Blk.box p.enc])[K.length]? = some (.box p.enc) := by rw [Fw.get_at0]; rfl
    have g5' : ∀ L, (K ++ L)[H.length + 5]? = some (.map ((mapOf (H.length + 8) es (c.take i)).map enc1)) := fun L => by rw [List.getElem?_append_left (by omega)]; exact g5
    rcases from_find hF (H.length + 8) p.a with ⟨f1, f2, f3⟩ | ⟨k, j, f1, f2⟩
    · have gvw : View.vw ⟨(K ++ [Blk.box p.enc]).length, none⟩ (K ++ [Blk.box p.enc]) = K ++ [Blk.box p.enc] := List.take_length
      refine awp_drawn [0, 0, 4, 0, 0, 1, 1, 1, 0, 3, 2] [0, 0, 2, 0, 0, 16, 56, 0, 128, 504, 1023] mixed rfl (by kernel_rfl) ?_
      refine dops_run 6 (by simp only [fwA, seval, gfw, bx, dx, bitfw, gvw, gq] <;> rfl) ?_
      refine dops_reads (.vec [] true) rfl rfl (fun A' hev => os_lookup (r := none) (z := .vec [] true) rfl un92 un28' (by rw [hev _ (by simp [Op.operands])]; rfl) ((hev _ (by simp [Op.operands])).trans rfl) (g5' _) (by rw [hev _ (by simp [Op.operands])]; exact (mfind1 p.a _ 0).trans (by rw [f1])) (fun _ => zero1_spec z22) ⟨rfl, rfl⟩) ?_
      refine dops_run 2 (by simp only [fwA, seval, gfw, bx, dx, bitfw, gq] <;> rfl) ?_
      refine dops_appendNew (n := 1) rfl rfl (.inr rfl) (Nat.le_refl _) un26 ti70 un26 (.inl ⟨_, rfl⟩) (by decide) rfl rfl (fun es f h e he => by
        simp only [fwA, seval, PV.vec.injEq] at h
        obtain ⟨rfl, rfl⟩ := h
        simp only [List.mem_singleton] at he
        subst he; rfl) rfl (by decide) (by decide) ?_
      refine dops_turns (H' := ((K ++ [Blk.box p.enc]) ++ [Blk.row 2 p.enc]).set (H.length + 5) (.map ((mapOf (H.length + 8) es (c.take i) ++ [(p.a, PV.row (H.length + 8 + (L.length + 1)) 0 1 2)]).map enc1))) .any rfl rfl (fun A' hev => os_mapUpdate (r := none) (.inl rfl) un92 un28' (by rw [hev _ (by simp [Op.operands])]; rfl) ((hev _ (by simp [Op.operands])).trans rfl) (by rw [List.append_assoc]; exact g5' _) (by rw [hev _ (by simp [Op.operands])]; exact (mfind1 p.a _ 0).trans (by rw [f1])) ⟨rfl, by
        rw [hev _ (by simp [Op.operands]), hev _ (by simp [Op.operands]), List.map_append]
        have : H.length + 8 + (L.length + 1) = (K ++ [Blk.box p.enc]).length := by rw [List.length_append, hKl]; rfl
        rw [this]; rfl⟩) ?_
      refine dops_end ?_
      refine awp_run rfl (by simp only [fwA, seval] <;> rfl) ?_
      refine ⟨(i + 1, es ++ [(p.a, L.length + 1)], L ++ [Blk.box p.enc, Blk.row 2 p.enc]), by simp only; omega, ⟨by simp only; omega, ?_⟩, ?_, ?_, rfl⟩
      · simp only [hts]
        exact from_new hF f2 f3 _
      · simp only [fwA, seval, gfw, hwi]
      · simp only [hts]
        rw [from_new_map f2 f3, List.set_append_left _ _ (by omega), hset]
        simp only [List.append_assoc]
    · have hm := List.mem_of_getElem? f1
      have hjl := from_len hF hm
      simp only at hjl
      have hrow : (K ++ [Blk.box p.enc])[H.length + 8 + j]? = some (.row 2 (((fl (c.take i) p.a).map Pr.enc).flatten)) := by
        rw [List.getElem?_append_left (by omega), g8]; exact hF.k4 _ hm
      have gvw : ((K ++ [Blk.box p.enc]).set (H.length + 8 + j) Blk.dead)[K.length]? = some (.box p.enc) := by rw [List.getElem?_set_ne (by omega)]; exact gq
      have hfl : (fl (c.take i) p.a).length ≤ 10000000 := by
        have h1 : (fl (c.take i) p.a).length ≤ (c.take i).length := List.length_filter_le _ _
        rw [List.length_take] at h1; omega
      refine awp_drawnX (some (H.length + 8 + j)) [0, 0, 4, 0, 0, 1, 1, 1, 0, 5, 2] [0, 0, 2, 0, 0, 16, 56, 0, 128, 504, 1023] mixed rfl (by kernel_rfl) ?_
      refine dops_run 6 (by simp only [fwA, seval, gfw, bx, dx, bitfw, gvw, gq] <;> rfl) ?_
      refine dops_reads (.row (H.length + 8 + j) 0 (fl (c.take i) p.a).length 2) rfl rfl (fun A' hev => os_lookup (r := some (k, .row (H.length + 8 + j) 0 (fl (c.take i) p.a).length 2)) (z := .any) rfl un92 un28' (by rw [hev _ (by simp [Op.operands])]; rfl) ((hev _ (by simp [Op.operands])).trans rfl) (g5' _) (by rw [hev _ (by simp [Op.operands])]; exact (mfind1 p.a _ 0).trans (by rw [f2])) (fun h => by cases h) ⟨rfl, rfl⟩) ?_
      refine dops_run 2 (by simp only [fwA, seval, gfw, bx, dx, bitfw, gq] <;> rfl) ?_
      refine dops_appendX (n := 1) (es := [p.enc]) (f := true) rfl rfl rfl un26 ti70 un26 (.inl ⟨_, rfl⟩) rfl hrow (by rw [flat_len Pr.enc_len]; exact (Nat.zero_add _).symm) rfl rfl (fun e he => by
        simp only [List.mem_singleton] at he
        subst he; rfl) rfl (by show (_ + 1) * 16 ≤ _; omega) (by show _ + 1 ≤ _; omega) rfl (by show _ < (K ++ [Blk.box p.enc]).length; rw [List.length_append]; omega) ?_
      refine dops_turns (H' := ((K ++ [Blk.box p.enc]).set (H.length + 8 + j) (.row 2 (((fl (c.take i) p.a).map Pr.enc).flatten ++ p.enc))).set (H.length + 5) (.map (((mapOf (H.length + 8) es (c.take i)).set k (p.a, PV.row (H.length + 8 + j) 0 ((fl (c.take i) p.a).length + 1) 2)).map enc1))) .any rfl rfl (fun A' hev => os_mapUpdate (r := some (k, .row (H.length + 8 + j) 0 (fl (c.take i) p.a).length 2)) (.inl rfl) un92 un28' (by rw [hev _ (by simp [Op.operands])]; rfl) ((hev _ (by simp [Op.operands])).trans rfl) (by rw [List.getElem?_set_ne (by omega)]; exact g5' _) (by rw [hev _ (by simp [Op.operands])]; exact (mfind1 p.a _ 0).trans (by rw [f2])) ⟨rfl, by
        rw [hev _ (by simp [Op.operands]), hev _ (by simp [Op.operands]), List.map_set]
        rfl⟩) ?_
      refine dops_end ?_
      refine awp_run rfl (by simp only [fwA, seval] <;> rfl) ?_
      refine ⟨(i + 1, es, (L ++ [Blk.box p.enc]).set j (.row 2 (((fl (c.take i) p.a).map Pr.enc).flatten ++ p.enc))), by simp only; omega, ⟨by simp only; omega, ?_⟩, ?_, ?_, rfl⟩
      · simp only [hts]
        exact from_old hF f1 _
      · simp only [fwA, seval, gfw, hwi]
      · simp only [hts]
        rw [from_old_map hF f1, List.set_append_left _ _ (by omega), List.set_append_left _ _ (by rw [List.length_set]; omega), hset8 _ _ _ hjl, List.set_append_left _ _ hjl]
        simp only [List.append_assoc]
  simp only [hc, decide_false, Bool.false_eq_true, ↓reduceIte]
  refine awp_exit ?_
  have e : i = c.length := by omega
  subst e
  rw [List.take_length] at hF ⊢
  refine awp_seq ?_
  refine awp_run rfl (by simp only [fwA, seval, gfw, bx, dx, bitfw] <;> rfl) ?_
  refine awp_seq ?_
  refine awp_region rfl ?_
  refine aops_run 1 (by simp only [fwA, seval, gfw, bx, dx, bitfw] <;> rfl) ?_
  refine aops_call rfl rfl rfl en53 ((c53 Γ _ c false (by omega)).mono fun p H' hp => ?_)
  obtain ⟨rfl, rfl⟩ := hp
  refine aops_run 1 (by simp only [fwA, seval, gfw, bx, dx, bitfw] <;> rfl) ?_
  refine aops_end ?_
  have hjw : ∀ x ∈ es, x.2 ≠ L.length := fun x hx => Nat.ne_of_lt (from_len hF hx)
  have hF2 := from_mono hF [Blk.row 2 ((c.map Pr.enc).flatten)]
  have hrw : (L ++ [Blk.row 2 ((c.map Pr.enc).flatten)])[L.length]? = some (.row 2 ((c.map Pr.enc).flatten)) := by rw [List.getElem?_append_right (Nat.le_refl _), Nat.sub_self]; rfl
  have hbl : H.length + ((baseL H.length ns us [] vs ((mapOf (H.length + 8) es c).map enc1) (solW vs fun _ => bot)).length + L.length) = H.length + 8 + L.length := by
    show H.length + (8 + L.length) = _
    omega
  rw [hbl]
  clear hbl
  generalize hjwd : L.length = jw at hjw hrw ⊢
  generalize hLw : L ++ [Blk.row 2 ((c.map Pr.enc).flatten)] = Lw at hF2 hrw
  refine awp_heap (H' := H ++ (baseL H.length ns us [] vs ((mapOf (H.length + 8) es c).map enc1) (solW vs fun _ => bot) ++ Lw)) (by rw [← hLw]) ?_
  refine awp_seq ?_
  refine awp_label ?_
  refine awp_seq ?_
  refine awp_block ?_
  refine awp_for [2, 6, 8, 9, 10, 15, 16] (fun s : List Pr × Nat × (Int → Nat) × List ((Int × Int) × PV) × List Blk => [.ptr H.length 0, .ptr (H.length + 2) 0, .ptr (H.length + 4) 0, .map (H.length + 5), .ptr (H.length + 6) 0, .func (.func 51) [] [.ptr (H.length + 6) 0, .ptr (H.length + 4) 0], .row (H.length + 8 + jw) (s.2.1 * 2) (s.1.length - s.2.1) 2]) (fun s => H ++ (baseL H.length ns us s.2.2.2.1 vs ((mapOf (H.length + 8) es c).map enc1) (solW vs s.2.2.1) ++ s.2.2.2.2)) (fun s => (s.1.length - s.2.1) + phi us.length (lq us) c s.2.2.1) (fun s => s.2.1 ≤ s.1.length ∧ s.2.2.2.2[jw]? = some (.row 2 ((s.1.map Pr.enc).flatten)) ∧ FromOk c es s.2.2.2.2 ∧ Lows us.length (lq us) c s.2.2.1 ∧ (∀ q ∈ c, q ∈ s.1.drop s.2.1 ∨ satP (lq us) s.2.2.1 q) ∧ (∀ q ∈ s.1, q ∈ c) ∧ JoinsOk ns us s.2.2.2.1 ∧ (s.1.length - s.2.1) + phi us.length (lq us) c s.2.2.1 ≤ 65 * c.length) (c, 0, (fun _ => bot), [], Lw) rfl rfl ⟨Nat.zero_le _, hrw, hF2, low_bot (fun _ => hbot), (fun q hq => .inl hq), (fun q hq => hq), (fun x hx => by cases hx), (by have := phi_le us.length (lq us) (fun _ => bot) c; simp only; have h64 : c.length * us.length ≤ c.length * 64 := Nat.mul_le_mul_left _ (by omega); omega)⟩ fun ⟨W, d, σ, js, L3⟩ ⟨o1, o2, o3, o4, o5, o6, o7, o8⟩ => ?_
  simp only at o1 o2 o3 o4 o5 o6 o7 o8 ⊢
  have hKl := base_len (H := H) (L := L3) (n := H.length) (ns := ns) (us := us) (js := js) (vs := vs) (F := (mapOf (H.length + 8) es c).map enc1) (sl := solW vs σ)
  have gk := fun k hk => base_get (H := H) (L := L3) (n := H.length) (ns := ns) (us := us) (js := js) (vs := vs) (F := (mapOf (H.length + 8) es c).map enc1) (sl := solW vs σ) k hk
  have g8 : ∀ j, (H ++ (baseL H.length ns us js vs ((mapOf (H.length + 8) es c).map enc1) (solW vs σ) ++ L3))[H.length + 8 + j]? = L3[j]? := fun j => base_tail j
  generalize hK : H ++ (baseL H.length ns us js vs ((mapOf (H.length + 8) es c).map enc1) (solW vs σ) ++ L3) = K at hKl gk g8 ⊢
  have gw : K[H.length + 8 + jw]? = some (.row 2 ((W.map Pr.enc).flatten)) := (g8 jw).trans o2
  have gb0 : K[H.length]? = some (.box [.vec (ns.map S1) false, .vec (us.map U1) false]) := gk 0 (by decide)
  have gb1 : K[H.length + 1]? = some (.map (js.map enc2)) := gk 1 (by decide)
  have gb2 : K[H.length + 2]? = some (.box [.vec (ns.map S1) false, .vec (us.map U1) false, .map (H.length + 1)]) := gk 2 (by decide)
  have gb3 : K[H.length + 3]? = some (.map ((atL vs).map enc1)) := gk 3 (by decide)
  have gb4 : K[H.length + 4]? = some (.box [.map (H.length + 3)]) := gk 4 (by decide)
  have gb5 : K[H.length + 5]? = some (.map ((mapOf (H.length + 8) es c).map enc1)) := gk 5 (by decide)
  have gb6 : K[H.length + 6]? = some (.box [.row (H.length + 7) 0 vs.length 2]) := gk 6 (by decide)
  have gb7 : K[H.length + 7]? = some (.row 2 (((solW vs σ).map So.enc).flatten)) := gk 7 (by decide)
  have hap : ∀ (j : Nat) (L : List Blk) (B : Blk), K[j]? = some B → (K ++ L)[j]? = some B := fun j L B h => by rw [List.getElem?_append_left (List.getElem?_eq_some_iff.1 h).1]; exact h
  refine awp_seq ?_
  refine awp_seq ?_
  refine awp_run rfl (by simp only [fwA, seval, gfw, bx, dx, bitfw] <;> rfl) ?_
  refine awp_cond (by simp only [fwA, seval] <;> rfl) ?_
  by_cases hc : (0 : Int) < ((W.length - d : Nat) : Int)
  rotate_left
  · simp only [hc, decide_false, Bool.false_eq_true, ↓reduceIte]
    refine awp_exit ?_
    have hsat : SolS us.length (lq us) c σ := ⟨o4.1, fun q hq => by
      rcases o5 q hq with h | h
      · rw [List.drop_eq_nil_of_le (by omega)] at h; cases h
      · exact h⟩
    refine awp_seq ?_
    refine awp_run rfl (by simp only [fwA, seval, gfw, bx, dx, bitfw, gb6] <;> rfl) ?_
    subst hK
    refine awp_told (told_freezeAt H _ 7 (C := ((solW vs σ).map So.enc).flatten) (by rw [List.getElem?_append_left (by show 7 < 8; decide)]; rfl) (flat_bd (fun t => by simp only [So.fw]) _)) ?_
    refine awp_ret ?_
    have hl1 := flat_len So.enc_len (solW vs σ)
    have hch := flat_chunk So.enc_len (solW vs σ)
    rw [solW_len] at hl1 hch
    refine hfin _ _ (solL c σ) true ⟨_, rfl⟩ ?_ ?_ (.inr ⟨hk, .inl ⟨σ, hsat, o4, rfl⟩⟩)
    · have : solL c σ = solW vs σ := by unfold solL solW; rw [hvs]
      rw [this]
      simp only [fwA, seval, gfw, hl1, hch]
    · simp only [fwA, seval, gfw]
  simp only [hc, decide_true, ↓reduceIte]
  refine awp_skip ?_
  have hd : d < W.length := by omega
  have gp : W[d]? = some W[d] := List.getElem?_eq_getElem hd
  generalize W[d] = p at gp
  have hpc : p ∈ c := o6 p (List.mem_of_getElem? gp)
  refine awp_block ?_
  refine awp_seq ?_
  refine awp_region rfl ?_
  refine aops_run 1 (by simp only [fwA, seval, gfw, bx, dx, bitfw] <;> rfl) ?_
  refine aops_one rfl (os_idxRow (i := 0) Pr.enc_len rfl el26 rfl rfl gw (by omega) (by omega) ?_)
  refine aops_one rfl (os_loadRow (i := d) (y := p) (p := .agg p.enc) Pr.enc_len rfl ti70 rfl gw (by omega) rfl gp rfl (by rw [if_pos rfl]) ?_)
  refine aops_run 2 (by simp only [fwA, seval, gfw, bx, dx, bitfw] <;> rfl) ?_
  refine aops_end ?_
  have gq : (K ++ [Blk.box p.enc])[K.length]? = some (.box p.enc) := by rw [Fw.get_at0]; rfl
  refine awp_seq ?_
  refine awp_region rfl ?_
  refine aops_run 1 (by simp only [fwA, seval, gfw, bx, dx, bitfw] <;> rfl) ?_
  refine aops_one rfl (os_sliceSuf (l := 1) rfl el26 rfl rfl (by omega) (hap _ _ _ gw) (by rw [flat_len Pr.enc_len]; omega) ?_)
  refine aops_run 1 (by simp only [fwA, seval, gfw, bx, dx, bitfw] <;> rfl) ?_
  refine aops_end ?_
  rw [show d * 2 + 1 * 2 = (d + 1) * 2 by omega, show W.length - d - 1 = W.length - (d + 1) by omega]
  have hIp := ho p hpc
  have hva : 0 ≤ p.a → p.a ∈ vs := fun h => by rw [← hvs]; exact (vars_mem c _).2 ⟨h, p, hpc, .inl rfl⟩
  have hvb : 0 ≤ p.b → p.b ∈ vs := fun h => by rw [← hvs]; exact (vars_mem c _).2 ⟨h, p, hpc, .inr rfl⟩
  have h24a := c51 Γ vs σ p.a hIp.1 hvn hva (K ++ [Blk.box p.enc]) (H.length + 6) (H.length + 4) (H.length + 7) (H.length + 3) (hap _ _ _ gb6) (hap _ _ _ gb4) (hap _ _ _ gb7) (hap _ _ _ gb3)
  have h24b := c51 Γ vs σ p.b hIp.2 hvn hvb (K ++ [Blk.box p.enc]) (H.length + 6) (H.length + 4) (H.length + 7) (H.length + 3) (hap _ _ _ gb6) (hap _ _ _ gb4) (hap _ _ _ gb7) (hap _ _ _ gb3)
  refine awp_seq ?_
  refine awp_drawn [0, 0, 1, 1, 0, 0, 1, 1, 0, 0] [0, 0, 2, 7, 0, 0, 32, 127, 255, 511] mixed rfl (by kernel_rfl) ?_
  refine dops_run 3 (by simp only [fwA, seval, gfw, bx, dx, bitfw, gq] <;> rfl) ?_
  refine dops_rcall (p := .int .i64 ((vl σ p.a : Nat) : Int)) rfl rfl rfl rfl en51 h24a ?_
  refine dops_run 3 (by simp only [fwA, seval, gfw, bx, dx, bitfw, gq] <;> rfl) ?_
  refine dops_rcall (p := .int .i64 ((vl σ p.b : Nat) : Int)) rfl rfl rfl rfl en51 h24b ?_
  refine dops_run 2 (by simp only [fwA, seval, gfw, bx, dx, bitfw] <;> rfl) ?_
  refine dops_end ?_
  have hla := vl_lt o4.1 (hP p hpc).1
  have hlb := vl_lt o4.1 (hP p hpc).2
  have h13 := c44 Γ ns us hw ((vl σ p.a : Nat) : Int) ((vl σ p.b : Nat) : Int)
  rw [leq_nat r2 hla hlb] at h13
  refine awp_seq ?_
  refine awp_seq ?_
  cases hle : lq us (vl σ p.a) (vl σ p.b)
  rotate_left
  · rw [hle] at h13
    refine awp_region rfl ?_
    refine aops_run 3 (by simp only [fwA, seval, gfw, bx, dx, bitfw, hap _ _ _ gb0] <;> rfl) ?_
    refine aops_fn rfl rfl rfl en44 h13 ?_
    refine aops_end ?_
    refine awp_cond (b := true) (by simp [alook, aput, ev]) ?_
    refine awp_exit ?_
    refine ⟨(W, d + 1, σ, js, L3 ++ [Blk.box p.enc]), by simp only; omega, ?_, ?_, ?_, rfl⟩
    · refine ⟨by simp only; omega, ?_, from_mono o3 _, o4, fun q hq => ?_, o6, o7, by simp only; omega⟩
      · simp only
        rw [List.getElem?_append_left (List.getElem?_eq_some_iff.1 o2).1]; exact o2
      · rcases o5 q hq with h | h
        · rw [List.drop_eq_getElem_cons hd] at h
          rcases List.mem_cons.1 h with h | h
          · refine .inr ?_
            have : W[d] = p := (List.getElem?_eq_some_iff.1 gp).2
            rw [h, this]; exact hle
          · exact .inl h
        · exact .inr h
    · simp only [fwA, seval, gfw]
    · rw [← hK]; simp only [List.append_assoc]
  rw [hle] at h13
  refine awp_region rfl ?_
  refine aops_run 3 (by simp only [fwA, seval, gfw, bx, dx, bitfw, hap _ _ _ gb0] <;> rfl) ?_
  refine aops_fn rfl rfl rfl en44 h13 ?_
  refine aops_end ?_
  refine awp_cond (b := false) (by simp [alook, aput, ev]) (awp_skip ?_)
  have h15 := c43 Γ p.b
  refine awp_seq ?_
  refine awp_seq ?_
  refine awp_region rfl ?_
  refine aops_run 2 (by simp only [fwA, seval, gfw, bx, dx, bitfw, gq] <;> rfl) ?_
  refine aops_fn rfl rfl rfl en43 h15 ?_
  refine aops_end ?_
  by_cases h0 : p.b < 0
  · rw [decide_eq_true h0]
    refine awp_cond (b := true) (by simp [alook, aput, ev]) ?_
    refine awp_seq ?_
    refine awp_run rfl (by simp only [fwA, seval] <;> rfl) ?_
    refine awp_told (told_le 4 (.vec [] false) ⟨nofun, PV.leLL_refl _⟩) ?_
    refine awp_ret ?_
    exact hfin _ _ [] false ⟨_, by rw [← hK, List.append_assoc]⟩ rfl rfl (.inr ⟨hk, .inr ⟨low_fail r5.toOrd hP o4 hpc h0 hle, rfl⟩⟩)
  rw [decide_eq_false h0]
  refine awp_cond (b := false) (by simp [alook, aput, ev]) (awp_skip ?_)
  obtain ⟨k, hkv⟩ := List.getElem?_of_mem (hvb (by omega))
  have hkl := (List.getElem?_eq_some_iff.1 hkv).1
  have hvl2 : vl σ p.b = σ p.b := by unfold vl; rw [if_neg h0]
  rw [hvl2] at hle hlb
  obtain ⟨j, ej, hj⟩ := join_nat hR hla hlb
  have hleq : leqB (min ns.length us.length) us ((vl σ p.a : Nat) : Int) ((σ p.b : Nat) : Int) = false := by rw [leq_nat r2 hla hlb]; exact hle
  have gv : ∀ (b : Nat) (B : Blk), K[b]? = some B → b ≠ H.length + 1 → ((K ++ [Blk.box p.enc]).set (H.length + 1) Blk.dead)[b]? = some B := fun b B h hne => by rw [List.getElem?_set_ne (Ne.symm hne)]; exact hap _ _ _ h
  have gv6 := gv _ _ gb6 (by omega)
  have gv4 := gv _ _ gb4 (by omega)
  have gv2 := gv _ _ gb2 (by omega)
  have gvq : ((K ++ [Blk.box p.enc]).set (H.length + 1) Blk.dead)[K.length]? = some (.box p.enc) := by rw [List.getElem?_set_ne (by omega)]; exact gq
  have hKl1 : (K ++ [Blk.box p.enc]).length = K.length + 1 := by simp
  refine awp_seq ?_
  refine awp_drawnX (some (H.length + 1)) [4, 4, 0, 4, 4, 4, 0, 0, 5, 1, 0, 2] [0, 0, 0, 4, 14, 0, 0, 0, 224, 511, 1023, 2047] mixed rfl (by kernel_rfl) ?_
  refine dops_run 4 (by simp only [fwA, seval, gfw, bx, dx, bitfw, gv6, gv4, gvq] <;> rfl) ?_
  refine dops_at4 (.int .i64 (k : Int)) rfl rfl (fun H2 k1 k2 A' hev => os_lookup (r := some (k, .int .i64 (k : Int))) (z := .any) rfl un91 un28' (by rw [hev _ (by simp [Op.operands])]; rfl) ((hev _ (by simp [Op.operands])).trans rfl) ((vw_get k2 (by show H.length + 3 < (K ++ [Blk.box p.enc]).length; omega) (by simp)).trans (hap _ _ _ gb3)) (by rw [hev _ (by simp [Op.operands])]; exact (mfind1 p.b _ 0).trans (by rw [atL_find hvn hkv])) (fun h => by cases h) ⟨rfl, rfl⟩) ?_
  refine dops_run 3 (by simp only [fwA, seval, gfw, bx, dx, bitfw, gv2] <;> rfl) ?_
  have h27 : ∀ H2 : List Blk, H.length + 1 < H2.length → H2[H.length + 1]? = (K ++ [Blk.box p.enc])[H.length + 1]? → ACalls Tryz.prog Γ 54 [.agg [.vec (ns.map S1) false, .vec (us.map U1) false, .map (H.length + 1)], .int .i64 ((vl σ p.a : Nat) : Int), .int .i64 ((vl σ p.b : Nat) : Int)] H2 (fun q H1 => q = .int .i64 (j : Int) ∧ H1 = H2.set (H.length + 1) (.map ((joinsTo ns us js ((vl σ p.a : Nat) : Int) ((σ p.b : Nat) : Int)).map enc2))) := fun H2 _ e => by
    have := c54 Γ hΓ ns us hw ((vl σ p.a : Nat) : Int) ((σ p.b : Nat) : Int) (H.length + 1) js o7 hleq H2 (e.trans (hap _ _ _ gb1))
    rw [ej] at this
    rw [hvl2]; exact this
  refine dops_turn (b := H.length + 1) rfl rfl rfl rfl en54 rfl (by show H.length + 1 < (K ++ [Blk.box p.enc]).length; omega) (by omega) h27 ?_
  have gr7 : ((K ++ [Blk.box p.enc]).set (H.length + 1) (.map ((joinsTo ns us js ((vl σ p.a : Nat) : Int) ((σ p.b : Nat) : Int)).map enc2)))[H.length + 7]? = some (.row 2 (((solW vs σ).map So.enc).flatten)) := by rw [List.getElem?_set_ne (by omega)]; exact hap _ _ _ gb7
  refine dops_idxRow (i := k) So.enc_len rfl rfl rfl el27 rfl rfl gr7 (by rw [solW_len]; omega) hkl ?_
  refine dops_run 1 (by simp only [fwA, seval, gfw, bx, dx, bitfw] <;> rfl) ?_
  refine dops_turns (H' := ((K ++ [Blk.box p.enc]).set (H.length + 1) (.map ((joinsTo ns us js ((vl σ p.a : Nat) : Int) ((σ p.b : Nat) : Int)).map enc2))).set (H.length + 7) (.row 2 (((solW vs (upd σ p.b j)).map So.enc).flatten))) .any rfl rfl (fun A' hev => os_storeE rfl ti3 ((hev _ (by simp [Op.operands])).trans rfl) gr7 (by rw [flat_len So.enc_len]) (by rw [hev _ (by simp [Op.operands])]; rfl) (by rw [hev _ (by simp [Op.operands])]; rfl) (by rw [flat_len So.enc_len, solW_len]; show k * 2 + 1 + 1 ≤ vs.length * 2; omega) (by decide) ⟨rfl, by
    rw [hev _ (by simp [Op.operands])]
    show List.set _ _ (Blk.row 2 (splice _ (k * 2 + 1) [.int .i64 (j : Int)])) = _
    rw [so_put (j : Int) (solW_get hkv), solW_upd hvn hkv]⟩) ?_
  refine dops_end ?_
  have hjs := o7.to ((vl σ p.a : Nat) : Int) ((σ p.b : Nat) : Int)
  generalize joinsTo ns us js ((vl σ p.a : Nat) : Int) ((σ p.b : Nat) : Int) = js' at hjs ⊢
  have hrise := step_rise r5.toOrd o4.1 hla hle hj
  have hphi := phi_upd hrise (by omega) c
  have hne : p.a ≠ p.b := fun e => by
    have h1 : vl σ p.a = σ p.b := by rw [e]; exact hvl2
    rw [h1, r5.refl _ hlb] at hle; cases hle
  have hws := work_step gp o5 (by omega) r5.toOrd hP o4.1 hpc hj hne
  have hlow := low_step r5.toOrd hP o4 hpc (by omega) hj
  generalize hσ' : upd σ p.b j = σ' at hphi hws hlow ⊢
  refine awp_heap (H' := H ++ (baseL H.length ns us js' vs ((mapOf (H.length + 8) es c).map enc1) (solW vs σ') ++ (L3 ++ [Blk.box p.enc]))) (by rw [← hK, List.append_assoc H, List.append_assoc (baseL _ _ _ _ _ _ _), base_set1, base_set7]) ?_
  have hjl : jw < L3.length := (List.getElem?_eq_some_iff.1 o2).1
  have hK2 : ∀ (k : Nat), k < 8 → (H ++ (baseL H.length ns us js' vs ((mapOf (H.length + 8) es c).map enc1) (solW vs σ') ++ (L3 ++ [Blk.box p.enc])))[H.length + k]? = (baseL H.length ns us js' vs ((mapOf (H.length + 8) es c).map enc1) (solW vs σ'))[k]? := fun k h => base_get k h
  have hT2 : ∀ j, (H ++ (baseL H.length ns us js' vs ((mapOf (H.length + 8) es c).map enc1) (solW vs σ') ++ (L3 ++ [Blk.box p.enc])))[H.length + 8 + j]? = (L3 ++ [Blk.box p.enc])[j]? := fun j => base_tail j
  have hS2 : ∀ B, (H ++ (baseL H.length ns us js' vs ((mapOf (H.length + 8) es c).map enc1) (solW vs σ') ++ (L3 ++ [Blk.box p.enc]))).set (H.length + 8 + jw) B = H ++ (baseL H.length ns us js' vs ((mapOf (H.length + 8) es c).map enc1) (solW vs σ') ++ (L3 ++ [Blk.box p.enc]).set jw B) := fun B => base_set8 jw B
  generalize H ++ (baseL H.length ns us js' vs ((mapOf (H.length + 8) es c).map enc1) (solW vs σ') ++ (L3 ++ [Blk.box p.enc])) = K2 at hK2 hT2 hS2 ⊢
  have q5 : K2[H.length + 5]? = some (.map ((mapOf (H.length + 8) es c).map enc1)) := hK2 5 (by decide)
  have qq : K2[K.length]? = some (.box p.enc) := by rw [hKl, hT2, List.getElem?_append_right (Nat.le_refl _), Nat.sub_self]; rfl
  have qw : K2[H.length + 8 + jw]? = some (.row 2 ((W.map Pr.enc).flatten)) := by rw [hT2, List.getElem?_append_left hjl]; exact o2
  refine awp_region rfl ?_
  refine aops_run 4 (by simp only [fwA, seval, gfw, bx, dx, bitfw, qq] <;> rfl) ?_
  have hWl : ((W.map Pr.enc).flatten).length = (d + 1) * 2 + (W.length - (d + 1)) * 2 := by rw [flat_len Pr.enc_len]; omega
  have hbnd : W.length - (d + 1) + (fl c p.b).length ≤ 65 * c.length := by omega
  have hok : d + 1 ≤ (W ++ fl c p.b).length ∧ ((L3 ++ [Blk.box p.enc]).set jw (.row 2 (((W ++ fl c p.b).map Pr.enc).flatten)))[jw]? = some (.row 2 (((W ++ fl c p.b).map Pr.enc).flatten)) ∧ FromOk c es ((L3 ++ [Blk.box p.enc]).set jw (.row 2 (((W ++ fl c p.b).map Pr.enc).flatten))) ∧ Lows us.length (lq us) c σ' ∧ (∀ q ∈ c, q ∈ (W ++ fl c p.b).drop (d + 1) ∨ satP (lq us) σ' q) ∧ (∀ q ∈ W ++ fl c p.b, q ∈ c) ∧ JoinsOk ns us js' ∧ ((W ++ fl c p.b).length - (d + 1)) + phi us.length (lq us) c σ' ≤ 65 * c.length := by
    refine ⟨by rw [List.length_append]; omega, List.getElem?_set_self (by rw [List.length_append]; omega), from_set (from_mono o3 _) hjw _, hlow, hws, fun q hq => ?_, hjs, by rw [List.length_append]; omega⟩
    rcases List.mem_append.1 hq with h | h
    · exact o6 q h
    · exact (fl_mem.1 h).1
  have hμ : ((W ++ fl c p.b).length - (d + 1)) + phi us.length (lq us) c σ' < (W.length - d) + phi us.length (lq us) c σ := by rw [List.length_append]; omega
  have hap2 : ((W ++ fl c p.b).map Pr.enc).flatten = (W.map Pr.enc).flatten ++ ((fl c p.b).map Pr.enc).flatten := by rw [List.map_append, List.flatten_append]
  have hln : W.length - (d + 1) + (fl c p.b).length = (W ++ fl c p.b).length - (d + 1) := by rw [List.length_append]; omega
  rcases from_find o3 (H.length + 8) p.b with ⟨f1, f2, f3⟩ | ⟨k', j', f1, f2⟩
  · refine aops_one rfl (os_lookup (r := none) (z := .vec [] true) rfl un92 un28' rfl rfl q5 ((mfind1 p.b _ 0).trans (by rw [f1])) (fun _ => zero1_spec z22) ?_)
    refine aops_one rfl (os_appendR (n := 0) rfl un26 ti70 un26 (.inl ⟨_, rfl⟩) rfl qw hWl rfl (fun es f h e he => by
      simp only [fwA, seval, gotOr, PV.vec.injEq] at h
      obtain ⟨rfl, rfl⟩ := h
      cases he) rfl (by show (_ + 0) * 16 ≤ _; omega) (by show _ + 0 ≤ _; omega) ?_)
    refine aops_run 1 (by simp only [fwA, seval, gfw, bx, dx, bitfw] <;> rfl) ?_
    refine aops_end ?_
    refine ⟨(W ++ fl c p.b, d + 1, σ', js', (L3 ++ [Blk.box p.enc]).set jw (.row 2 (((W ++ fl c p.b).map Pr.enc).flatten))), hμ, hok, ?_, ?_, rfl⟩
    · simp only [fwA, seval, gfw, ← hln, f3, List.length_nil, List.append_nil]
    · simp only
      rw [← hS2, hap2, f3]; rfl
  · refine aops_one rfl (os_lookup (r := some (k', .row (H.length + 8 + j') 0 (fl c p.b).length 2)) (z := .any) rfl un92 un28' rfl rfl q5 ((mfind1 p.b _ 0).trans (by rw [f2])) (fun h => by cases h) ?_)
    have hm := List.mem_of_getElem? f1
    have hsrc : srcOf K2 2 (.row (H.length + 8 + j') 0 (fl c p.b).length 2) = some (((fl c p.b).map Pr.enc).flatten) := by
      unfold srcOf
      have : K2[H.length + 8 + j']? = some (.row 2 (((fl c p.b).map Pr.enc).flatten)) := by
        rw [hT2, List.getElem?_append_left (from_len o3 hm)]; exact o3.k4 _ hm
      simp only [this]
      rw [if_pos ⟨trivial, trivial, by rw [flat_len Pr.enc_len]; omega, by rw [List.drop_zero]; exact flat_bd (fun _ => rfl) _⟩, List.drop_zero]
    refine aops_one rfl (os_appendR (n := (fl c p.b).length) rfl un26 ti70 un26 (.inl ⟨_, rfl⟩) rfl qw hWl hsrc (fun es f h e he => by
      have h' : PV.row (H.length + 8 + j') 0 (fl c p.b).length 2 = PV.vec es f := h
      cases h') rfl (by show (_ + _) * 16 ≤ _; omega) (by omega) ?_)
    refine aops_run 1 (by simp only [fwA, seval, gfw, bx, dx, bitfw] <;> rfl) ?_
    refine aops_end ?_
    refine ⟨(W ++ fl c p.b, d + 1, σ', js', (L3 ++ [Blk.box p.enc]).set jw (.row 2 (((W ++ fl c p.b).map Pr.enc).flatten))), hμ, hok, ?_, ?_, rfl⟩
    · simp only [fwA, seval, gfw, ← hln]
    · simp only
      rw [← hS2, hap2]
end Go.Proofs.YteicbhkimepbaaaGreatDoor
namespace Go.Proofs.YteicbhkimepbaaaGreatDoor
set_option linter.unusedVariables false
set_option linter.unusedSimpArgs false
set_option maxRecDepth 100000
open Go.RowKit Fw
def dcP (bk : Bool) (c : List Pr) : List Pr := if bk = true then flp c else c
def dcO (bk : Bool) (p : Pr) : Pr := if bk = true then ⟨p.b, p.a⟩ else p
end Go.Proofs.YteicbhkimepbaaaGreatDoor
namespace Go.Proofs.YteicbhkimepbaaaGreatDoor
set_option linter.unusedVariables false
set_option linter.unusedSimpArgs false
set_option maxRecDepth 100000
open Go.RowKit Fw
section
variable {P : Program} {Γ : Nat → PV} {ops : Array Oper} {cls : List Nat} {n0 : View}
theorem srcOf_one {H : List Blk} {sz : Nat} {e : List PV} {f : Bool} : srcOf H sz (.vec [e] f) = some e := by simp [srcOf]
theorem os_push {X : Type} {enc : X → List PV} {sz : Nat} (hE : ∀ x, (enc x).length = sz) {o : Oper} {K : PV → List Blk → Prop} {A : List (Nat × PV)} {H : List Blk} {x y : Operand} {t tx e e' : TypeId} {ti : TI} {b k : Nat} {l : List X} {z : X} {f : Bool}
    (ho : o.op = .call { callee := .builtin .append, args := #[x, y], argTypes := #[t, tx] }) (ht : P.underlying t = some (.slice e)) (he : tiOf P e = some ti) (hti : ti.size = sz) (htx : P.underlying tx = some (.slice e')) (hx : ev Γ A x = .row b 0 k sz) (hbk : H[b]? = some (.row sz ((l.map enc).flatten))) (hk' : k = l.length)
    (hy : ev Γ A y = .vec [enc z] f) (hbd : (k + 1) * ti.bytes ≤ 140737488355328) (hbd' : k + 1 ≤ 9223372036854775807)
    (hk : K (.row b 0 (k + 1) sz) (H.set b (.row sz (((l ++ [z]).map enc).flatten)))) : OStep P Γ o A H K := by
  subst hti
  refine os_appendR (n := 1) ho ht he htx (.inl ⟨_, rfl⟩) hx hbk (by rw [flat_len hE, hk', Nat.zero_add]) (by rw [hy]; exact srcOf_one) (fun es f' h e he => by
    rw [hy] at h
    cases h
    rw [List.mem_singleton] at he
    subst he; exact hE z) (by rw [hy]; rfl) hbd hbd' ?_
  rw [List.map_append, List.flatten_append] at hk
  simpa using hk
theorem aops_push {X : Type} {enc : X → List PV} {sz : Nat} (hE : ∀ x, (enc x).length = sz) {o : Oper} {Q : List (Nat × PV) → List Blk → Prop} {rest : List Oper} {A : List (Nat × PV)} {H H' : List Blk} {x y : Operand} {t tx e e' : TypeId} {ti : TI} {b k : Nat} {l : List X} {z : X} {f : Bool}
    (ho : o.op = .call { callee := .builtin .append, args := #[x, y], argTypes := #[t, tx] }) (hg : o.guard = none) (ht : P.underlying t = some (.slice e)) (he : tiOf P e = some ti) (hti : ti.size = sz) (htx : P.underlying tx = some (.slice e')) (hx : ev Γ A x = .row b 0 k sz) (hbk : H[b]? = some (.row sz ((l.map enc).flatten))) (hk' : k = l.length)
    (hy : ev Γ A y = .vec [enc z] f) (hbd : (k + 1) * ti.bytes ≤ 140737488355328) (hbd' : k + 1 ≤ 9223372036854775807) (hH : H.set b (.row sz (((l ++ [z]).map enc).flatten)) = H')
    (hk : AOps P Γ ops Q rest (aput A o.dst (.row b 0 (k + 1) sz)) H') : AOps P Γ ops Q (o :: rest) A H := by
  subst hH
  exact aops_one hg (os_push hE ho ht he hti htx hx hbk hk' hy hbd hbd' hk)
theorem dops_push {X : Type} {enc : X → List PV} {sz : Nat} (hE : ∀ x, (enc x).length = sz) {i : Nat} {o : Oper} {K : List (Nat × PV) → List Blk → Prop} {rest : List (Nat × Oper)} {A : List (Nat × PV)} {H H' : List Blk} {x y : Operand} {t tx e e' : TypeId} {ti : TI} {b k : Nat} {l : List X} {z : X} {f : Bool}
    (ho : o.op = .call { callee := .builtin .append, args := #[x, y], argTypes := #[t, tx] }) (hw : wantA ops A o = some true) (hc : cls.getD i 0 = 2) (ht : P.underlying t = some (.slice e)) (he : tiOf P e = some ti) (hti : ti.size = sz) (htx : P.underlying tx = some (.slice e')) (hx : ev Γ A x = .row b 0 k sz) (hbk : H[b]? = some (.row sz ((l.map enc).flatten))) (hk' : k = l.length)
    (hy : ev Γ A y = .vec [enc z] f) (hbd : (k + 1) * ti.bytes ≤ 140737488355328) (hbd' : k + 1 ≤ 9223372036854775807) (hH : H.set b (.row sz (((l ++ [z]).map enc).flatten)) = H')
    (hk : DOps P Γ ops cls n0 K rest (aput A o.dst (.row b 0 (k + 1) sz)) H') : DOps P Γ ops cls n0 K ((i, o) :: rest) A H := by
  subst hH
  exact dops_turns _ hw hc (fun A' hev => by
    have ex := hev x (call_ops ho (by simp))
    have ey := hev y (call_ops ho (by simp))
    exact os_push hE ho ht he hti htx (ex.trans hx) hbk hk' (ey.trans hy) hbd hbd' ⟨rfl, rfl⟩) hk
end
end Go.Proofs.YteicbhkimepbaaaGreatDoor
namespace Go.Proofs.YteicbhkimepbaaaGreatDoor
set_option linter.unusedVariables false
set_option linter.unusedSimpArgs false
set_option maxRecDepth 100000
open Go.RowKit Fw
def IsLub (n : Nat) (r : Nat → Nat → Bool) (P : Nat → Prop) (x : Nat) : Prop := x < n ∧ ∀ z, z < n → (r x z = true ↔ ∀ p, p < n → P p → r p z = true)
variable {n : Nat} {r : Nat → Nat → Bool} {P Q : Nat → Prop} {c : List Pr} {τ : Int → Nat} {x y : Nat}
def lowP (c : List Pr) (a : Int) (p : Nat) : Prop := Rch c (-1 - (p : Int)) a
def highP (c : List Pr) (a : Int) (p : Nat) : Prop := Rch c a (-1 - (p : Int))
def extP (c : List Pr) (K : List Int) (s : Int → Nat) (v : Int) (p : Nat) : Prop := lowP c v p ∨ ∃ k ∈ K, Rch c k v ∧ p = s k
end Go.Proofs.YteicbhkimepbaaaGreatDoor
namespace Go.Proofs.YteicbhkimepbaaaGreatDoor
set_option linter.unusedVariables false
set_option linter.unusedSimpArgs false
set_option maxRecDepth 100000
open Go.RowKit Fw
end Go.Proofs.YteicbhkimepbaaaGreatDoor
