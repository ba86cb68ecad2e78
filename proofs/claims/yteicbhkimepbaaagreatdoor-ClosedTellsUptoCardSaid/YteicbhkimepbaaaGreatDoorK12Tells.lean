/- ClosedTells: of any lattice, any pairs, atoms all is told as the chapter says, where what is read is of a bulk of at most 1048576: for every input the law returns true, and each argument reads as it read. Conditions: the row's own. -/
import Derived.Test.YteicbhkimepbaaaGreatDoorS12
import Derived.Test.YteicbhkimepbaaaGreatDoorS12b
import Derived.Test.YteicbhkimepbaaaGreatDoorA12b
import Derived.Test.YteicbhkimepbaaaGreatDoorA12c
import Derived.Test.YteicbhkimepbaaaGreatDoorA12
import Derived.Test.YteicbhkimepbaaaGreatDoorWG
namespace Go.Proofs.YteicbhkimepbaaaGreatDoor.closedTellsUpto
set_option linter.unusedVariables false
set_option linter.unusedSimpArgs false
set_option maxRecDepth 100000
open Go.ChangeShapes Go.WideShapes Go.ChangeAt Go.RowKit Fw

theorem laid_met (os : Os) : laidMet Tryz.prog Rows.closedTellsUptoRow.laid ((laidWorld os).forCall (fun _ _ => 0) ⟨#[], #[.agg #[.slice none 0 0, .slice none 0 0], .slice none 0 0, .int .i64 0, .int .i64 0, .slice none 0 0], []⟩).memory :=
  laidMet_of_run' 8 (by kernel_rfl) (by kernel_rfl)
theorem reads (os : Os) {H : Type} (enc : TypeId × Value → H) : ∃ places, DataW.whole enc Tryz.prog ((laidWorld os).forCall (fun _ _ => 0) ⟨#[], #[.agg #[.slice none 0 0, .slice none 0 0], .slice none 0 0, .int .i64 0, .int .i64 0, .slice none 0 0], []⟩).memory Tryz.f4.params.toList Rows.closedTellsSpec.vars false (#[.agg #[.slice none 0 0, .slice none 0 0], .slice none 0 0, .int .i64 0, .int .i64 0, .slice none 0 0] : Array Value).toList 8 = some ([.agg [.nil, .nil], .nil, .lit (.int .i64 0), .lit (.int .i64 0), .nil], [], places) :=
  ⟨[], by kernel_rfl⟩

theorem readArgs (W : World) : ReadsArgsB Tryz.prog W Tryz.f4.params.toList (fun x : (List (List UInt8) × List Int) × List Pr × Int × Int × List Int × Unit => [.agg (laR x.1), .vec (List.map Pr.enc x.2.1) false, .int .i64 x.2.2.1, .int .i64 x.2.2.2.1, .vec (List.map I1 x.2.2.2.2.1) false]) (fun x : (List (List UInt8) × List Int) × List Pr × Int × Int × List Int × Unit => LaOk x.1 ∧ (List.length x.2.1 * Tryz.prog.bytesOf 70 ≤ reachBytes ∧ ∀ y ∈ x.2.1, PrOk y) ∧ (Lit.int .i64 x.2.2.1).wf = true ∧ (Lit.int .i64 x.2.2.2.1).wf = true ∧ (List.length x.2.2.2.2.1 * Tryz.prog.bytesOf 28 ≤ reachBytes ∧ ∀ y ∈ x.2.2.2.2.1, (Lit.int .i64 y).wf = true) ∧ True) (fun x : (List (List UInt8) × List Int) × List Pr × Int × Int × List Int × Unit => (laW x.1) + (((List.map (fun _ => 1) x.2.1).sum + 1) + ((1) + ((1) + (((List.map (fun _ => 1) x.2.2.2.2.1).sum + 1) + (0)))))) :=
  argsB_cons (readsB_la W) <| argsB_cons (readsB_pairs W) <| argsB_cons (readsB_int Tryz.underlying28) <| argsB_cons (readsB_int Tryz.underlying28) <| argsB_cons (readsB_atoms W) <| argsB_nil

set_option maxRecDepth 100000 in
theorem lifted (os : Os) (started : os.Started) (H : Type) (enc : TypeId × Value → H) (F : Stop.Interp) :
    ReturnsInHanded {} Tryz.checked os 4 .any ((Rows.OpenSpec.upto Rows.closedTellsSpec).preRow enc Tryz.prog Tryz.f4 Rows.closedTellsUptoRow.domain false Rows.closedTellsUptoRow.laid) (((Rows.OpenSpec.upto Rows.closedTellsSpec).at F).post enc Tryz.prog Tryz.f4 false true false false) := by
  obtain ⟨places, hx⟩ := reads os enc
  refine returnsInHanded_of_row (C := Tryz.checked) (s := (Rows.OpenSpec.upto Rows.closedTellsSpec)) own started (by kernel_rfl) Tryz.func4
    (witness_row_at (enc := enc) (C := Tryz.checked) false (laidWorld os) #[.agg #[.slice none 0 0, .slice none 0 0], .slice none 0 0, .int .i64 0, .int .i64 0, .slice none 0 0] rfl (by kernel_rfl) (by kernel_rfl) (by kernel_rfl)
      (OpenSpec.preRow_of_cond 8 hx (by kernel_rfl) (fun k hk => by cases hk; kernel_rfl) (by kernel_rfl) (laid_met os))) ?_
  intro W base args ds gs before hval hW _ hc hw hL _ _
  exact law_callsB (by kernel_rfl) (by kernel_rfl) rfl (by kernel_rfl) Tryz.underlying4 (fun ds hds => by
      match ds, hds with
      | [_, _, _, _, _], _ => rfl) (sim0 hL) (readArgs W) (fun x hx hwt => by have e1 := ones_sum x.2.1; have e2 := ones_sum x.2.2.2.2.1; rw [laR_eq hx.1]; exact c4 Γ0 tabΓ0 x.1.1 (x.1.2.map Int.toNat) (la_w64 hx.1) x.2.1 (by omega) hx.2.1.2 x.2.2.1 x.2.2.2.1 (i64_wf hx.2.2.1) (i64_wf hx.2.2.2.1) x.2.2.2.2.1 (fun v hv => i64_wf (hx.2.2.2.2.1.2 v hv)) (mul_le1 (by omega)) (mul_le2 (by omega)) (by omega)) (upto_bulk hc) hval hW hw

theorem said : Rows.ClosedTellsUptoSaid :=
  OpenClaim.holds_of_cond 4 Tryz.f4 rfl rfl rfl rfl rfl rfl rfl ⟨rfl, rfl, rfl, rfl, rfl⟩ rfl rfl rfl rfl rfl (by kernel_rfl) Tryz.func4 (by kernel_rfl)
    (of_decide_eq_true (by kernel_rfl)) (by unfold Func.isWrapper; first | (rw [if_pos (by decide +kernel)]; kernel_rfl) | (rw [if_neg (by decide +kernel)]; exact ⟨rfl, rfl⟩))
    (fun os started H enc _ F => by rw [OpenClaim.pre_eq_preRow]; exact lifted os started H enc F)

theorem plain (f : FuncId) (fn : Func) (hf : Tryz.pinned.checked.prog.funcNamed "chancel/chancellaw12.ClosedTells" = some f) (hfn : Tryz.pinned.checked.prog.funcs[f]? = some fn) :
    false = Tryz.pinned.checked.prog.looks [] ∧ ∀ (j : Nat) t, fn.params[j]? = some t → Tryz.pinned.checked.prog.wantsStandIn t = false := by
  obtain rfl : f = 4 := Option.some.inj ((show Tryz.prog.funcNamed "chancel/chancellaw12.ClosedTells" = some 4 by kernel_rfl).symm.trans hf) |>.symm
  obtain rfl : fn = Tryz.f4 := (Option.some.inj (Tryz.func4.symm.trans hfn)).symm
  refine ⟨by kernel_rfl, fun j t ht => ?_⟩
  have hall : (Tryz.f4.params.all fun t => !Tryz.prog.wantsStandIn t) = true := by kernel_rfl
  rw [Array.all_eq_true'] at hall
  have := hall t (Array.mem_of_getElem? ht)
  show Tryz.prog.wantsStandIn t = false
  simpa using this

theorem card : Rows.ClosedTellsUptoCardSaid :=
  Claim7.holds_tied_plain_at .later [] _ _ _ _ said (fun _ h => by cases h) (by kernel_rfl) (fun _ h => by cases h) closedTellsUpto_row_tie rfl ⟨rfl, rfl⟩ (by kernel_rfl) rfl plain (by kernel_rfl)
end Go.Proofs.YteicbhkimepbaaaGreatDoor.closedTellsUpto
