/- Words of the print that this seat's texts use (its own rows, shortened). -/
import Derived.Test.YtchflcnegpnkkabWInv
import Derived.Test.YtchflcnegpnkkabWFootNe
namespace Go.Proofs.YtchflcnegpnkkabW.PrintWords
open Go.RowKit
end Go.Proofs.YtchflcnegpnkkabW.PrintWords
namespace Go.Proofs.YtchflcnegpnkkabW.PrintLast
section
variable {ops : Array Oper} {a : Act} {o og : Oper} {g : Nat} {t : Tmp} {u : Bool}
end
end Go.Proofs.YtchflcnegpnkkabW.PrintLast
