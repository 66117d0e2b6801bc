/- Words of the print that this seat's texts use (its own rows, shortened). -/
import Derived.Test.YtgnahbjpockdmabWInv
import Derived.Test.YtgnahbjpockdmabWFootNe
namespace Go.Proofs.YtgnahbjpockdmabW.PrintWords
open Go.RowKit
end Go.Proofs.YtgnahbjpockdmabW.PrintWords
namespace Go.Proofs.YtgnahbjpockdmabW.PrintLast
section
variable {ops : Array Oper} {a : Act} {o og : Oper} {g : Nat} {t : Tmp} {u : Bool}
end
end Go.Proofs.YtgnahbjpockdmabW.PrintLast
