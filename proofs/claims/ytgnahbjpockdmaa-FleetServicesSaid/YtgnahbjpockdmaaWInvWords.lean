/- Words of the print that this seat's texts use (its own rows, shortened). -/
import Derived.Test.YtgnahbjpockdmaaWInv
import Derived.Test.YtgnahbjpockdmaaWFootNe
namespace Go.Proofs.YtgnahbjpockdmaaW.PrintWords
open Go.RowKit
end Go.Proofs.YtgnahbjpockdmaaW.PrintWords
namespace Go.Proofs.YtgnahbjpockdmaaW.PrintLast
section
variable {ops : Array Oper} {a : Act} {o og : Oper} {g : Nat} {t : Tmp} {u : Bool}
end
end Go.Proofs.YtgnahbjpockdmaaW.PrintLast
