/- SolveTells: of any lattice, any pairs, solutions, atoms all is told as the chapter says, where what is read is of a bulk of at most 1048576: for every input the law returns true, and each argument reads as it read. Conditions: the row's own. -/
import Derived.Test.YteicbhkimepbaaaGreatDoorS12
import Derived.Test.YteicbhkimepbaaaGreatDoorS12b
import Derived.Test.YteicbhkimepbaaaGreatDoorA12b
import Derived.Test.YteicbhkimepbaaaGreatDoorA12c
import Derived.Test.YteicbhkimepbaaaGreatDoorA12d
import Derived.Test.YteicbhkimepbaaaGreatDoorA12
import Derived.Test.YteicbhkimepbaaaGreatDoorWG
namespace Go.Proofs.YteicbhkimepbaaaGreatDoor.solveTellsUpto
set_option linter.unusedVariables false
set_option linter.unusedSimpArgs false
set_option maxRecDepth 100000
open Go.ChangeShapes Go.WideShapes Go.ChangeAt Go.RowKit Fw

theorem laid_met (os : Os) : laidMet Tryz.prog Rows.solveTellsUptoRow.laid ((laidWorld os).forCall (fun _ _ => 0) ⟨#[], #[.agg #[.slice none 0 0, .slice none 0 0], .slice none 0 0, .slice none 0 0, .int .i64 0], []⟩).memory :=
  laidMet_of_run' 8 (by kernel_rfl) (by kernel_rfl)
theorem reads (os : Os) {H : Type} (enc : TypeId × Value → H) : ∃ places, DataW.whole enc Tryz.prog ((laidWorld os).forCall (fun _ _ => 0) ⟨#[], #[.agg #[.slice none 0 0, .slice none 0 0], .slice none 0 0, .slice none 0 0, .int .i64 0], []⟩).memory Tryz.f3.params.toList Rows.solveTellsSpec.vars false (#[.agg #[.slice none 0 0, .slice none 0 0], .slice none 0 0, .slice none 0 0, .int .i64 0] : Array Value).toList 8 = some ([.agg [.nil, .nil], .nil, .nil, .lit (.int .i64 0)], [], places) :=
  ⟨[], by kernel_rfl⟩

theorem readArgs (W : World) : ReadsArgsB Tryz.prog W Tryz.f3.params.toList (fun x : (List (List UInt8) × List Int) × List Pr × List So × Int × Unit => [.agg (laR x.1), .vec (List.map Pr.enc x.2.1) false, .vec (List.map So.enc x.2.2.1) false, .int .i64 x.2.2.2.1]) (fun x : (List (List UInt8) × List Int) × List Pr × List So × Int × Unit => LaOk x.1 ∧ (List.length x.2.1 * Tryz.prog.bytesOf 70 ≤ reachBytes ∧ ∀ y ∈ x.2.1, PrOk y) ∧ (List.length x.2.2.1 * Tryz.prog.bytesOf 82 ≤ reachBytes ∧ ∀ y ∈ x.2.2.1, SoOk y) ∧ (Lit.int .i64 x.2.2.2.1).wf = true ∧ True) (fun x : (List (List UInt8) × List Int) × List Pr × List So × Int × Unit => (laW x.1) + (((List.map (fun _ => 1) x.2.1).sum + 1) + (((List.map (fun _ => 1) x.2.2.1).sum + 1) + ((1) + (0))))) :=
  argsB_cons (readsB_la W) <| argsB_cons (readsB_pairs W) <| argsB_cons (readsB_sols W) <| argsB_cons (readsB_int Tryz.underlying28) <| argsB_nil

set_option maxRecDepth 100000 in
theorem lifted (os : Os) (started : os.Started) (H : Type) (enc : TypeId × Value → H) (F : Stop.Interp) :
    ReturnsInHanded {} Tryz.checked os 3 .any ((Rows.OpenSpec.upto Rows.solveTellsSpec).preRow enc Tryz.prog Tryz.f3 Rows.solveTellsUptoRow.domain false Rows.solveTellsUptoRow.laid) (((Rows.OpenSpec.upto Rows.solveTellsSpec).at F).post enc Tryz.prog Tryz.f3 false true false false) := by
  obtain ⟨places, hx⟩ := reads os enc
  refine returnsInHanded_of_row (C := Tryz.checked) (s := (Rows.OpenSpec.upto Rows.solveTellsSpec)) own started (by kernel_rfl) Tryz.func3
    (witness_row_at (enc := enc) (C := Tryz.checked) false (laidWorld os) #[.agg #[.slice none 0 0, .slice none 0 0], .slice none 0 0, .slice none 0 0, .int .i64 0] rfl (by kernel_rfl) (by kernel_rfl) (by kernel_rfl)
      (OpenSpec.preRow_of_cond 8 hx (by kernel_rfl) (fun k hk => by cases hk; kernel_rfl) (by kernel_rfl) (laid_met os))) ?_
  intro W base args ds gs before hval hW _ hc hw hL _ _
  exact law_callsB (by kernel_rfl) (by kernel_rfl) rfl (by kernel_rfl) Tryz.underlying4 (fun ds hds => by
      match ds, hds with
      | [_, _, _, _], _ => rfl) (sim0 hL) (readArgs W) (fun x hx hwt => by have e1 := ones_sum x.2.1; have e2 := ones_sum x.2.2.1; rw [laR_eq hx.1]; exact c3 Γ0 tabΓ0 x.1.1 (x.1.2.map Int.toNat) (la_w64 hx.1) x.2.1 (by omega) hx.2.1.2 x.2.2.1 (by omega) x.2.2.2.1 (i64_wf hx.2.2.2.1)) (upto_bulk hc) hval hW hw

theorem said : Rows.SolveTellsUptoSaid :=
  OpenClaim.holds_of_cond 3 Tryz.f3 rfl rfl rfl rfl rfl rfl rfl ⟨rfl, rfl, rfl, rfl, rfl⟩ rfl rfl rfl rfl rfl (by kernel_rfl) Tryz.func3 (by kernel_rfl)
    (of_decide_eq_true (by kernel_rfl)) (by unfold Func.isWrapper; first | (rw [if_pos (by decide +kernel)]; kernel_rfl) | (rw [if_neg (by decide +kernel)]; exact ⟨rfl, rfl⟩))
    (fun os started H enc _ F => by rw [OpenClaim.pre_eq_preRow]; exact lifted os started H enc F)

theorem plain (f : FuncId) (fn : Func) (hf : Tryz.pinned.checked.prog.funcNamed "chancel/chancellaw11.SolveTells" = some f) (hfn : Tryz.pinned.checked.prog.funcs[f]? = some fn) :
    false = Tryz.pinned.checked.prog.looks [] ∧ ∀ (j : Nat) t, fn.params[j]? = some t → Tryz.pinned.checked.prog.wantsStandIn t = false := by
  obtain rfl : f = 3 := Option.some.inj ((show Tryz.prog.funcNamed "chancel/chancellaw11.SolveTells" = some 3 by kernel_rfl).symm.trans hf) |>.symm
  obtain rfl : fn = Tryz.f3 := (Option.some.inj (Tryz.func3.symm.trans hfn)).symm
  refine ⟨by kernel_rfl, fun j t ht => ?_⟩
  have hall : (Tryz.f3.params.all fun t => !Tryz.prog.wantsStandIn t) = true := by kernel_rfl
  rw [Array.all_eq_true'] at hall
  have := hall t (Array.mem_of_getElem? ht)
  show Tryz.prog.wantsStandIn t = false
  simpa using this

theorem card : Rows.SolveTellsUptoCardSaid :=
  Claim7.holds_tied_plain_at .later [] _ _ _ _ said (fun _ h => by cases h) (by kernel_rfl) (fun _ h => by cases h) solveTellsUpto_row_tie rfl ⟨rfl, rfl⟩ (by kernel_rfl) rfl plain (by kernel_rfl)
end Go.Proofs.YteicbhkimepbaaaGreatDoor.solveTellsUpto
