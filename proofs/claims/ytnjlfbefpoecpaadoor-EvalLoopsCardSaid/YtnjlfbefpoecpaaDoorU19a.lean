/- A loop that counts a cell down: computed. -/
import Derived.Test.YtnjlfbefpoecpaaDoorWD
namespace Go.Proofs.YtnjlfbefpoecpaaDoor
set_option linter.unusedVariables false
set_option linter.unusedSimpArgs false
set_option maxRecDepth 100000
open Go.RowKit Fw

def lessT : Tm := twoT 11 [] (varT [99]) (twoT 12 [45] (getT [99]) (numT 1))
def moreT : Tm := twoT 11 [] (varT [100]) (twoT 12 [43] (getT [100]) (getT [99]))
def loopT : Tm := twoT 13 [] (twoT 7 [] (getT [99]) (twoT 13 [] moreT lessT)) (getT [100])
def loopPg (n : Int) : Pg := ⟨[], [⟨[99], [76, 111], n⟩, ⟨[100], [76, 111], 0⟩], [], loopT⟩
def loopOk (n : Nat) : Bool :=
  let r := runP (loopPg n) [] 5000
  decide (r.st = 1) && decide (r.v.n = ((n * (n + 1) / 2 : Nat) : Int)) && decide (r.c.map (·.n) = [0, ((n * (n + 1) / 2 : Nat) : Int)]) && decide (r.f = 4994 - 17 * (n : Int))
theorem loops_ok : (List.range 50).all loopOk = true := by kernel_rfl

end Go.Proofs.YtnjlfbefpoecpaaDoor
