/- The closers that the printed texts use over and over, each said once (laid by press.py). -/
import Derived.Test.YtgnahbjpockdmabPrs
namespace Go.Proofs.YtgnahbjpockdmabPrt
open Go.RowKit Go.Proofs.YtgnahbjpockdmabPrs Go.Proofs.YtgnahbjpockdmabOwn Go.Proofs.YtgnahbjpockdmabW.PrintWords Go.Proofs.YtgnahbjpockdmabW.PrintMore Go.Proofs.YtgnahbjpockdmabW.PrintLast
set_option linter.unusedVariables false

def bA (i n : Nat) : Array Bool := ⟨List.replicate i true ++ List.replicate (n - i) false⟩
end Go.Proofs.YtgnahbjpockdmabPrt
