/- EvalTells: of any term, whatever stands round it, of any program (of a few definitions), and of one by bytes a run is what the chapter says, where what is read is of a bulk of at most 1048576: for every input the law returns true, and each argument reads as it read. Conditions: the row's own. -/
import Derived.Test.YtnjlfbefpoecpaaDoorS19
import Derived.Test.YtnjlfbefpoecpaaDoorS19b
import Derived.Test.YtnjlfbefpoecpaaDoorA19b
namespace Go.Proofs.YtnjlfbefpoecpaaDoor.evalTellsUpto
set_option linter.unusedVariables false
set_option linter.unusedSimpArgs false
set_option maxRecDepth 100000
open Go.ChangeShapes Go.WideShapes Go.ChangeAt Go.RowKit Fw

theorem laid_met (os : Os) : laidMet Tryd.prog Rows.evalTellsUptoRow.laid ((laidWorld os).forCall (fun _ _ => 0) ⟨#[], #[.agg #[.int .i64 0, .string .empty, .int .i64 0, .slice none 0 0], .slice none 0 0, .slice none 0 0, .int .i64 0, .agg #[.slice none 0 0, .slice none 0 0, .slice none 0 0, .int .i64 0, .string .empty, .int .i64 0, .slice none 0 0], .slice none 0 0, .slice none 0 0, .int .u8 0], []⟩).memory :=
  laidMet_of_run' 8 (by kernel_rfl) (by kernel_rfl)
theorem reads (os : Os) {H : Type} (enc : TypeId × Value → H) : ∃ places, DataW.whole enc Tryd.prog ((laidWorld os).forCall (fun _ _ => 0) ⟨#[], #[.agg #[.int .i64 0, .string .empty, .int .i64 0, .slice none 0 0], .slice none 0 0, .slice none 0 0, .int .i64 0, .agg #[.slice none 0 0, .slice none 0 0, .slice none 0 0, .int .i64 0, .string .empty, .int .i64 0, .slice none 0 0], .slice none 0 0, .slice none 0 0, .int .u8 0], []⟩).memory Tryd.f8.params.toList Rows.evalTellsSpec.vars false (#[.agg #[.int .i64 0, .string .empty, .int .i64 0, .slice none 0 0], .slice none 0 0, .slice none 0 0, .int .i64 0, .agg #[.slice none 0 0, .slice none 0 0, .slice none 0 0, .int .i64 0, .string .empty, .int .i64 0, .slice none 0 0], .slice none 0 0, .slice none 0 0, .int .u8 0] : Array Value).toList 8 = some ([.agg [.lit (.int .i64 0), .lit (.string []), .lit (.int .i64 0), .nil], .nil, .nil, .lit (.int .i64 0), .agg [.nil, .nil, .nil, .agg [.lit (.int .i64 0), .lit (.string []), .lit (.int .i64 0), .nil]], .nil, .nil, .lit (.int .u8 0)], [], places) :=
  ⟨[], by kernel_rfl⟩

theorem readArgs (W : World) : ReadsArgsB Tryd.prog W Tryd.f8.params.toList (fun x : Tm × List Bd × List Sl × Int × Pg × List Int × List Int × Int × Unit => [.agg (Tm.enc x.1), .vec (List.map Bd.enc x.2.1) false, .vec (List.map Sl.enc x.2.2.1) false, .int .i64 x.2.2.2.1, .agg (Pg.enc x.2.2.2.2.1), insV x.2.2.2.2.2.1, bytesV x.2.2.2.2.2.2.1, .int .u8 x.2.2.2.2.2.2.2.1]) (fun x : Tm × List Bd × List Sl × Int × Pg × List Int × List Int × Int × Unit => Tm.Ok x.1 ∧ (List.length x.2.1 * Tryd.prog.bytesOf 99 ≤ reachBytes ∧ ∀ y ∈ x.2.1, y.Ok) ∧ (List.length x.2.2.1 * Tryd.prog.bytesOf 53 ≤ reachBytes ∧ ∀ y ∈ x.2.2.1, True) ∧ (Lit.int .i64 x.2.2.2.1).wf = true ∧ ((∀ d ∈ (Pg.defs x.2.2.2.2.1), d.t.Ok) ∧ (Pg.body x.2.2.2.2.1).Ok) ∧ (List.length x.2.2.2.2.2.1 * Tryd.prog.bytesOf 2 ≤ reachBytes ∧ ∀ y ∈ x.2.2.2.2.2.1, (Lit.int .i64 y).wf = true) ∧ (List.length x.2.2.2.2.2.2.1 * Tryd.prog.bytesOf 5 ≤ reachBytes ∧ ∀ y ∈ x.2.2.2.2.2.2.1, (Lit.int .u8 y).wf = true) ∧ (Lit.int .u8 x.2.2.2.2.2.2.2.1).wf = true ∧ True) (fun x : Tm × List Bd × List Sl × Int × Pg × List Int × List Int × Int × Unit => (0) + (((List.map Bd.w x.2.1).sum + 1) + (((List.map (fun _ => 0) x.2.2.1).sum + 1) + ((1) + ((0) + (((List.map (fun _ => 1) x.2.2.2.2.2.1).sum + 1) + (((List.map (fun _ => 1) x.2.2.2.2.2.2.1).sum + 1) + ((1) + (0))))))))) :=
  argsB_cons (readsB_tm W) <| argsB_cons (readsB_bds W) <| argsB_cons (readsB_sls W) <| argsB_cons (readsB_int Tryd.underlying3) <| argsB_cons (readsB_pg W) <| argsB_cons (readsB_i64s W) <| argsB_cons (readsB_u8s W) <| argsB_cons (readsB_int Tryd.underlying5) <| argsB_nil

set_option maxRecDepth 100000 in
theorem lifted (os : Os) (started : os.Started) (H : Type) (enc : TypeId × Value → H) (F : Stop.Interp) :
    ReturnsInHanded {} Tryd.checked os 8 .any ((Rows.OpenSpec.upto Rows.evalTellsSpec).preRow enc Tryd.prog Tryd.f8 Rows.evalTellsUptoRow.domain false Rows.evalTellsUptoRow.laid) (((Rows.OpenSpec.upto Rows.evalTellsSpec).at F).post enc Tryd.prog Tryd.f8 false true false false) := by
  obtain ⟨places, hx⟩ := reads os enc
  refine returnsInHanded_of_row (C := Tryd.checked) (s := (Rows.OpenSpec.upto Rows.evalTellsSpec)) own started (by kernel_rfl) Tryd.func8
    (witness_row_at (enc := enc) (C := Tryd.checked) false (laidWorld os) #[.agg #[.int .i64 0, .string .empty, .int .i64 0, .slice none 0 0], .slice none 0 0, .slice none 0 0, .int .i64 0, .agg #[.slice none 0 0, .slice none 0 0, .slice none 0 0, .int .i64 0, .string .empty, .int .i64 0, .slice none 0 0], .slice none 0 0, .slice none 0 0, .int .u8 0] rfl (by kernel_rfl) (by kernel_rfl) (by kernel_rfl)
      (OpenSpec.preRow_of_cond 8 hx (by kernel_rfl) (fun k hk => by cases hk; kernel_rfl) (by kernel_rfl) (laid_met os))) ?_
  intro W base args ds gs before hval hW _ hc hw hL _ _
  exact law_callsB (by kernel_rfl) (by kernel_rfl) rfl (by kernel_rfl) Tryd.underlying4 (fun ds hds => by
      match ds, hds with
      | [_, _, _, _, _, _, _, _], _ => rfl) (sim0 hL) (readArgs W) (fun x hx hwt => c8 Γ0 tabΓ0 x.1 hx.1.k x.2.1 (EL_mono (by decide) (ws_EL (n := 1048576) (by rw [Bd.ws_sum]; omega))) hx.2.1.2 (ok_OE hx.2.1.2) x.2.2.1 (by have := hx.2.2.1.1; rwa [by53] at this) x.2.2.2.1 (int_wf hx.2.2.2.1).1 x.2.2.2.2.1 (fun d hd => (hx.2.2.2.2.1.1 d hd).k) hx.2.2.2.2.1.2.k x.2.2.2.2.2.1 x.2.2.2.2.2.2.1 (fun y hy => u8_wf (hx.2.2.2.2.2.2.1.2 y hy)) x.2.2.2.2.2.2.2.1 (u8_wf hx.2.2.2.2.2.2.2.1).1 (u8_wf hx.2.2.2.2.2.2.2.1).2) (upto_bulk hc) hval hW hw

theorem said : Rows.EvalTellsUptoSaid :=
  OpenClaim.holds_of_cond 8 Tryd.f8 rfl rfl rfl rfl rfl rfl rfl ⟨rfl, rfl, rfl, rfl, rfl⟩ rfl rfl rfl rfl rfl (by kernel_rfl) Tryd.func8 (by kernel_rfl)
    (of_decide_eq_true (by kernel_rfl)) (by unfold Func.isWrapper; first | (rw [if_pos (by decide +kernel)]; kernel_rfl) | (rw [if_neg (by decide +kernel)]; exact ⟨rfl, rfl⟩))
    (fun os started H enc _ F => by rw [OpenClaim.pre_eq_preRow]; exact lifted os started H enc F)

theorem plain (f : FuncId) (fn : Func) (hf : Tryd.pinned.checked.prog.funcNamed "chancel/chancellaw19.EvalTells" = some f) (hfn : Tryd.pinned.checked.prog.funcs[f]? = some fn) :
    false = Tryd.pinned.checked.prog.looks [] ∧ ∀ (j : Nat) t, fn.params[j]? = some t → Tryd.pinned.checked.prog.wantsStandIn t = false := by
  obtain rfl : f = 8 := Option.some.inj ((show Tryd.prog.funcNamed "chancel/chancellaw19.EvalTells" = some 8 by kernel_rfl).symm.trans hf) |>.symm
  obtain rfl : fn = Tryd.f8 := (Option.some.inj (Tryd.func8.symm.trans hfn)).symm
  refine ⟨by kernel_rfl, fun j t ht => ?_⟩
  have hall : (Tryd.f8.params.all fun t => !Tryd.prog.wantsStandIn t) = true := by kernel_rfl
  rw [Array.all_eq_true'] at hall
  have := hall t (Array.mem_of_getElem? ht)
  show Tryd.prog.wantsStandIn t = false
  simpa using this

theorem card : Rows.EvalTellsUptoCardSaid :=
  Claim7.holds_tied_plain_at .later [] _ _ _ _ said (fun _ h => by cases h) (by kernel_rfl) (fun _ h => by cases h) evalTellsUpto_row_tie rfl ⟨rfl, rfl⟩ (by kernel_rfl) rfl plain (by kernel_rfl)
end Go.Proofs.YtnjlfbefpoecpaaDoor.evalTellsUpto
