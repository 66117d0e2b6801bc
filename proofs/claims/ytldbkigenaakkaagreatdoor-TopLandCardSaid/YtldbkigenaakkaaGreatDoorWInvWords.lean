/- Words of the print that this seat's texts use (its own rows, shortened). -/
import Derived.Test.YtldbkigenaakkaaGreatDoorWInv
import Derived.Test.YtldbkigenaakkaaGreatDoorWFootNe
namespace Go.Proofs.YtldbkigenaakkaaGreatDoorW.PrintWords
open Go.RowKit
end Go.Proofs.YtldbkigenaakkaaGreatDoorW.PrintWords
namespace Go.Proofs.YtldbkigenaakkaaGreatDoorW.PrintLast
section
variable {ops : Array Oper} {a : Act} {o og : Oper} {g : Nat} {t : Tmp} {u : Bool}
end
end Go.Proofs.YtldbkigenaakkaaGreatDoorW.PrintLast
