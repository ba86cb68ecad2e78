/- The framework: where ways come together again. -/
import Derived.Test.YtdacialfjlcboaaGreatDoorWB
namespace Go.Proofs.YtdacialfjlcboaaGreatDoor.Fw
set_option linter.unusedVariables false
set_option linter.unusedSimpArgs false
set_option maxRecDepth 100000
open Go.RowKit
variable {P : Program} {Γ : Nat → PV} {N : Nat} {ro : Option Nat} {A : List (Nat × PV)} {H : List Blk} {D : List Nat} {Q : Post}

/-- Two pieces: what holds between them is told by a few slots, and by the blocks. -/
theorem awp_join {S : Type} (keep : List Nat) (st : S → List PV) (Hs : S → List Blk) (ok : S → Prop) {x y : Code}
    (h1 : AWP P Γ N ro x A H D (Post.then (fun A' H' D' => ∃ s, ok s ∧ keep.map (alook A') = st s ∧ H' = Hs s ∧ D' = D) Q))
    (h2 : ∀ s, ok s → AWP P Γ N ro y (keep.zip (st s)) (Hs s) D Q) : AWP P Γ N ro (.seq x y) A H D Q := by
  refine awp_seq (h1.mono fun e A' H' D' hq => ?_)
  cases e with
  | normal =>
    obtain ⟨s, k1, k2, rfl, rfl⟩ := hq
    exact awp_less (fun t => zip_look keep _ t A' k2) (h2 s k1)
  | _ => exact hq

end Go.Proofs.YtdacialfjlcboaaGreatDoor.Fw
