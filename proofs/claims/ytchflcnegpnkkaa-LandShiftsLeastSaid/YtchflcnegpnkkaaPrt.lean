/- The closers that the printed texts use over and over, each said once (laid by press.py). -/
import Derived.Test.YtchflcnegpnkkaaPrs
namespace Go.Proofs.YtchflcnegpnkkaaPrt
open Go.RowKit Go.Proofs.YtchflcnegpnkkaaPrs Go.Proofs.YtchflcnegpnkkaaOwn Go.Proofs.YtchflcnegpnkkaaW.PrintWords Go.Proofs.YtchflcnegpnkkaaW.PrintMore Go.Proofs.YtchflcnegpnkkaaW.PrintLast
set_option linter.unusedVariables false

def bA (i n : Nat) : Array Bool := ⟨List.replicate i true ++ List.replicate (n - i) false⟩
end Go.Proofs.YtchflcnegpnkkaaPrt
