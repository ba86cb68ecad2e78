/- TermBinds: a function binds its name in its kid, a let, and a try, in the second one alone, where what is read is of a bulk of at most 1048576: for every input the law returns true, and each argument reads as it read. Conditions: the row's own. -/
import Derived.Test.YtlbmlhpjibgepaaDoorS03
import Derived.Test.YtlbmlhpjibgepaaDoorS03b
import Derived.Test.YtlbmlhpjibgepaaDoorA03
import Derived.Test.YtlbmlhpjibgepaaDoorT03d
namespace Go.Proofs.YtlbmlhpjibgepaaDoor.termBindsUpto
set_option linter.unusedVariables false
set_option linter.unusedSimpArgs false
set_option maxRecDepth 100000
open Go.ChangeShapes Go.WideShapes Go.ChangeAt Go.RowKit Fw

theorem laid_met (os : Os) : laidMet Tryd.prog Rows.termBindsUptoRow.laid ((laidWorld os).forCall (fun _ _ => 0) ⟨#[], #[.agg #[.int .i64 0, .string .empty, .int .i64 0, .slice none 0 0], .agg #[.int .i64 0, .string .empty, .int .i64 0, .slice none 0 0], .string .empty], []⟩).memory :=
  laidMet_of_run' 8 (by kernel_rfl) (by kernel_rfl)
theorem reads (os : Os) {H : Type} (enc : TypeId × Value → H) : ∃ places, DataW.whole enc Tryd.prog ((laidWorld os).forCall (fun _ _ => 0) ⟨#[], #[.agg #[.int .i64 0, .string .empty, .int .i64 0, .slice none 0 0], .agg #[.int .i64 0, .string .empty, .int .i64 0, .slice none 0 0], .string .empty], []⟩).memory Tryd.f6.params.toList Rows.termBindsSpec.vars false (#[.agg #[.int .i64 0, .string .empty, .int .i64 0, .slice none 0 0], .agg #[.int .i64 0, .string .empty, .int .i64 0, .slice none 0 0], .string .empty] : Array Value).toList 8 = some ([.agg [.lit (.int .i64 0), .lit (.string []), .lit (.int .i64 0), .nil], .agg [.lit (.int .i64 0), .lit (.string []), .lit (.int .i64 0), .nil], .lit (.string [])], [], places) :=
  ⟨[], by kernel_rfl⟩

theorem readArgs (W : World) : ReadsArgsB Tryd.prog W Tryd.f6.params.toList (fun x : Tm × Tm × List UInt8 × Unit => [.agg (Tm.enc x.1), .agg (Tm.enc x.2.1), .str x.2.2.1]) (fun x : Tm × Tm × List UInt8 × Unit => Tm.Ok x.1 ∧ Tm.Ok x.2.1 ∧ List.length x.2.2.1 ≤ reachBytes ∧ True) (fun x : Tm × Tm × List UInt8 × Unit => (Tm.w x.1) + ((Tm.w x.2.1) + ((List.length x.2.2.1 + 1) + (0)))) :=
  argsB_cons (readsB_tm W) <| argsB_cons (readsB_tm W) <| argsB_cons (readsB_str Tryd.underlying9) <| argsB_nil

set_option maxRecDepth 100000 in
theorem lifted (os : Os) (started : os.Started) (H : Type) (enc : TypeId × Value → H) (F : Stop.Interp) :
    ReturnsInHanded {} Tryd.checked os 6 .any ((Rows.OpenSpec.upto Rows.termBindsSpec).preRow enc Tryd.prog Tryd.f6 Rows.termBindsUptoRow.domain false Rows.termBindsUptoRow.laid) (((Rows.OpenSpec.upto Rows.termBindsSpec).at F).post enc Tryd.prog Tryd.f6 false true false false) := by
  obtain ⟨places, hx⟩ := reads os enc
  refine returnsInHanded_of_row (C := Tryd.checked) (s := (Rows.OpenSpec.upto Rows.termBindsSpec)) own started (by kernel_rfl) Tryd.func6
    (witness_row_at (enc := enc) (C := Tryd.checked) false (laidWorld os) #[.agg #[.int .i64 0, .string .empty, .int .i64 0, .slice none 0 0], .agg #[.int .i64 0, .string .empty, .int .i64 0, .slice none 0 0], .string .empty] rfl (by kernel_rfl) (by kernel_rfl) (by kernel_rfl)
      (OpenSpec.preRow_of_cond 8 hx (by kernel_rfl) (fun k hk => by cases hk; kernel_rfl) (by kernel_rfl) (laid_met os))) ?_
  intro W base args ds gs before hval hW _ hc hw hL _ _
  exact law_callsB (by kernel_rfl) (by kernel_rfl) rfl (by kernel_rfl) Tryd.underlying4 (fun ds hds => by
      match ds, hds with
      | [_, _, _], _ => rfl) (sim0 hL) (readArgs W) (fun x hx hwt => c6 Γ0 tabΓ0 x.1 x.2.1 x.2.2.1 (by omega) (by omega)) (upto_bulk hc) hval hW hw

theorem said : Rows.TermBindsUptoSaid :=
  OpenClaim.holds_of_cond 6 Tryd.f6 rfl rfl rfl rfl rfl rfl rfl ⟨rfl, rfl, rfl, rfl, rfl⟩ rfl rfl rfl rfl rfl (by kernel_rfl) Tryd.func6 (by kernel_rfl)
    (of_decide_eq_true (by kernel_rfl)) (by unfold Func.isWrapper; first | (rw [if_pos (by decide +kernel)]; kernel_rfl) | (rw [if_neg (by decide +kernel)]; exact ⟨rfl, rfl⟩))
    (fun os started H enc _ F => by rw [OpenClaim.pre_eq_preRow]; exact lifted os started H enc F)

theorem plain (f : FuncId) (fn : Func) (hf : Tryd.pinned.checked.prog.funcNamed "chancel/chancellaw03.TermBinds" = some f) (hfn : Tryd.pinned.checked.prog.funcs[f]? = some fn) :
    false = Tryd.pinned.checked.prog.looks [] ∧ ∀ (j : Nat) t, fn.params[j]? = some t → Tryd.pinned.checked.prog.wantsStandIn t = false := by
  obtain rfl : f = 6 := Option.some.inj ((show Tryd.prog.funcNamed "chancel/chancellaw03.TermBinds" = some 6 by kernel_rfl).symm.trans hf) |>.symm
  obtain rfl : fn = Tryd.f6 := (Option.some.inj (Tryd.func6.symm.trans hfn)).symm
  refine ⟨by kernel_rfl, fun j t ht => ?_⟩
  have hall : (Tryd.f6.params.all fun t => !Tryd.prog.wantsStandIn t) = true := by kernel_rfl
  rw [Array.all_eq_true'] at hall
  have := hall t (Array.mem_of_getElem? ht)
  show Tryd.prog.wantsStandIn t = false
  simpa using this

theorem card : Rows.TermBindsUptoCardSaid :=
  Claim7.holds_tied_plain_at .later [] _ _ _ _ said (fun _ h => by cases h) (by kernel_rfl) (fun _ h => by cases h) termBindsUpto_row_tie rfl ⟨rfl, rfl⟩ (by kernel_rfl) rfl plain (by kernel_rfl)
end Go.Proofs.YtlbmlhpjibgepaaDoor.termBindsUpto
