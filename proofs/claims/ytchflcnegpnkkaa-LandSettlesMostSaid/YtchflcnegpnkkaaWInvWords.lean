/- Words of the print that this seat's texts use (its own rows, shortened). -/
import Derived.Test.YtchflcnegpnkkaaWInv
import Derived.Test.YtchflcnegpnkkaaWFootNe
namespace Go.Proofs.YtchflcnegpnkkaaW.PrintWords
open Go.RowKit
end Go.Proofs.YtchflcnegpnkkaaW.PrintWords
namespace Go.Proofs.YtchflcnegpnkkaaW.PrintLast
section
variable {ops : Array Oper} {a : Act} {o og : Oper} {g : Nat} {t : Tmp} {u : Bool}
end
end Go.Proofs.YtchflcnegpnkkaaW.PrintLast
