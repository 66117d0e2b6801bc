import Derived.Test.YtgnahbjpockdmaaPlain
import Derived.Test.YtgnahbjpockdmaaQ13
namespace Go.Proofs.Ytgnahbjpockdmaa.Known
open Go.RowKit Go.Proofs.YtgnahbjpockdmaaOwn Go.Proofs.Ytgnahbjpockdmaa.Q Go.Proofs.YtgnahbjpockdmaaW.PrintWords Go.Proofs.YtgnahbjpockdmaaW.PrintLast Go.Proofs.YtgnahbjpockdmaaW.PrintMore
set_option linter.unusedVariables false
set_option linter.unusedSimpArgs false
theorem known_ev : Ev (fun k => hinterlandlaw14_known.f k) true := Ev.of hinterlandlaw14_known.mono (k := 200) (by decide +kernel)
end Go.Proofs.Ytgnahbjpockdmaa.Known
