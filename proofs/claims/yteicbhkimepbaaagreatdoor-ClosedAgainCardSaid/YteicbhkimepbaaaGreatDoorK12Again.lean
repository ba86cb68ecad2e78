/- ClosedAgain: what is projected is in order, of what is kept alone, and projected again it is the same; so in two steps: for every input the law returns true, and each argument reads as it read. Conditions: the row's own. -/
import Derived.Test.YteicbhkimepbaaaGreatDoorS12
import Derived.Test.YteicbhkimepbaaaGreatDoorA12
import Derived.Test.YteicbhkimepbaaaGreatDoorT12f
namespace Go.Proofs.YteicbhkimepbaaaGreatDoor.closedAgain
set_option linter.unusedVariables false
set_option linter.unusedSimpArgs false
set_option maxRecDepth 100000
open Go.ChangeShapes Go.WideShapes Go.ChangeAt Go.RowKit Fw

theorem laid_met (os : Os) : laidMet Tryz.prog Rows.closedAgainRow.laid ((laidWorld os).forCall (fun _ _ => 0) ⟨#[], #[.int .u8 0, .slice none 0 0, .int .u8 0, .int .u8 0], []⟩).memory :=
  laidMet_of_run' 8 (by kernel_rfl) (by kernel_rfl)
theorem reads (os : Os) {H : Type} (enc : TypeId × Value → H) : ∃ places, DataW.whole enc Tryz.prog ((laidWorld os).forCall (fun _ _ => 0) ⟨#[], #[.int .u8 0, .slice none 0 0, .int .u8 0, .int .u8 0], []⟩).memory Tryz.f5.params.toList Rows.closedAgainSpec.vars false (#[.int .u8 0, .slice none 0 0, .int .u8 0, .int .u8 0] : Array Value).toList 8 = some ([.lit (.int .u8 0), .nil, .lit (.int .u8 0), .lit (.int .u8 0)], [], places) :=
  ⟨[], by kernel_rfl⟩

theorem readArgs (W : World) : ReadsArgs Tryz.prog W Tryz.f5.params.toList (fun x : Int × List Pr × Int × Int × Unit => [.int .u8 x.1, .vec (List.map Pr.enc x.2.1) false, .int .u8 x.2.2.1, .int .u8 x.2.2.2.1]) (fun x : Int × List Pr × Int × Int × Unit => (Lit.int .u8 x.1).wf = true ∧ (List.length x.2.1 * Tryz.prog.bytesOf 70 ≤ reachBytes ∧ ∀ y ∈ x.2.1, PrOk y) ∧ (Lit.int .u8 x.2.2.1).wf = true ∧ (Lit.int .u8 x.2.2.2.1).wf = true ∧ True) :=
  args_cons (reads_int Tryz.underlying5) <| args_cons (reads_pairs W) <| args_cons (reads_int Tryz.underlying5) <| args_cons (reads_int Tryz.underlying5) <| args_nil

set_option maxRecDepth 100000 in
theorem lifted (os : Os) (started : os.Started) (H : Type) (enc : TypeId × Value → H) (F : Stop.Interp) :
    ReturnsInHanded {} Tryz.checked os 5 .any ((OpenSpec.ofChange Rows.closedAgainSpec).preRow enc Tryz.prog Tryz.f5 Rows.closedAgainRow.domain false Rows.closedAgainRow.laid) (((OpenSpec.ofChange Rows.closedAgainSpec).at F).post enc Tryz.prog Tryz.f5 false true false false) := by
  obtain ⟨places, hx⟩ := reads os enc
  refine returnsInHanded_of_row (C := Tryz.checked) (s := (OpenSpec.ofChange Rows.closedAgainSpec)) own started (by kernel_rfl) Tryz.func5
    (witness_row_at (enc := enc) (C := Tryz.checked) false (laidWorld os) #[.int .u8 0, .slice none 0 0, .int .u8 0, .int .u8 0] rfl (by kernel_rfl) (by kernel_rfl) (by kernel_rfl)
      (OpenSpec.preRow_of_cond 8 hx (by kernel_rfl) (fun k hk => by cases hk) (by kernel_rfl) (laid_met os))) ?_
  intro W base args ds gs before hval hW _ _ hw hL _ _
  exact law_calls (by kernel_rfl) (by kernel_rfl) rfl (by kernel_rfl) Tryz.underlying4 (fun ds hds => by
      match ds, hds with
      | [_, _, _, _], _ => rfl) (sim0 hL) (readArgs W) (fun x hx => c5 Γ0 tabΓ0 x.1 (u8_wf hx.1).1 x.2.1 hx.2.1.2 x.2.2.1 x.2.2.2.1 (u8_wf hx.2.2.1).1 (u8_wf hx.2.2.2.1)) hval hW hw

theorem said : Rows.ClosedAgainSaid :=
  OpenClaim.holds_of_cond 5 Tryz.f5 rfl rfl rfl rfl rfl rfl rfl ⟨rfl, rfl, rfl, rfl, rfl⟩ rfl rfl rfl rfl rfl (by kernel_rfl) Tryz.func5 (by kernel_rfl)
    (of_decide_eq_true (by kernel_rfl)) (by unfold Func.isWrapper; first | (rw [if_pos (by decide +kernel)]; kernel_rfl) | (rw [if_neg (by decide +kernel)]; exact ⟨rfl, rfl⟩))
    (fun os started H enc _ F => by rw [OpenClaim.pre_eq_preRow]; exact lifted os started H enc F)

theorem plain (f : FuncId) (fn : Func) (hf : Tryz.pinned.checked.prog.funcNamed "chancel/chancellaw12.ClosedAgain" = some f) (hfn : Tryz.pinned.checked.prog.funcs[f]? = some fn) :
    false = Tryz.pinned.checked.prog.looks [] ∧ ∀ (j : Nat) t, fn.params[j]? = some t → Tryz.pinned.checked.prog.wantsStandIn t = false := by
  obtain rfl : f = 5 := Option.some.inj ((show Tryz.prog.funcNamed "chancel/chancellaw12.ClosedAgain" = some 5 by kernel_rfl).symm.trans hf) |>.symm
  obtain rfl : fn = Tryz.f5 := (Option.some.inj (Tryz.func5.symm.trans hfn)).symm
  refine ⟨by kernel_rfl, fun j t ht => ?_⟩
  have hall : (Tryz.f5.params.all fun t => !Tryz.prog.wantsStandIn t) = true := by kernel_rfl
  rw [Array.all_eq_true'] at hall
  have := hall t (Array.mem_of_getElem? ht)
  show Tryz.prog.wantsStandIn t = false
  simpa using this

theorem card : Rows.ClosedAgainCardSaid :=
  Claim7.holds_tied_plain_at .later [] _ _ _ _ said (fun _ h => by cases h) (by kernel_rfl) (fun _ h => by cases h) closedAgain_row_tie rfl ⟨rfl, rfl⟩ (by kernel_rfl) rfl plain (by kernel_rfl)
end Go.Proofs.YteicbhkimepbaaaGreatDoor.closedAgain
