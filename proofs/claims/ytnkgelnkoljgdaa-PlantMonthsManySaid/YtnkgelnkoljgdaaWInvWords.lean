/- Words of the print that this seat's texts use (its own rows, shortened). -/
import Derived.Test.YtnkgelnkoljgdaaWInv
import Derived.Test.YtnkgelnkoljgdaaWFootNe
namespace Go.Proofs.YtnkgelnkoljgdaaW.PrintWords
open Go.RowKit
end Go.Proofs.YtnkgelnkoljgdaaW.PrintWords
namespace Go.Proofs.YtnkgelnkoljgdaaW.PrintLast
section
variable {ops : Array Oper} {a : Act} {o og : Oper} {g : Nat} {t : Tmp} {u : Bool}
end
end Go.Proofs.YtnkgelnkoljgdaaW.PrintLast
