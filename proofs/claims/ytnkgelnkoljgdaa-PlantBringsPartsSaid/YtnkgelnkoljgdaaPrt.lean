/- The closers that the printed texts use over and over, each said once (laid by press.py). -/
import Derived.Test.YtnkgelnkoljgdaaPrs
namespace Go.Proofs.YtnkgelnkoljgdaaPrt
open Go.RowKit Go.Proofs.YtnkgelnkoljgdaaPrs Go.Proofs.YtnkgelnkoljgdaaOwn Go.Proofs.YtnkgelnkoljgdaaW.PrintWords Go.Proofs.YtnkgelnkoljgdaaW.PrintMore Go.Proofs.YtnkgelnkoljgdaaW.PrintLast
set_option linter.unusedVariables false

end Go.Proofs.YtnkgelnkoljgdaaPrt
