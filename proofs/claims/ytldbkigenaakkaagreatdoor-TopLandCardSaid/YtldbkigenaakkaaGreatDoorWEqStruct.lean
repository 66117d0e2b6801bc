/- Words of the print that this seat's texts use (its own rows, shortened). -/
import Derived.Test.YtldbkigenaakkaaGreatDoorWWords
import Derived.Laws.StructEq
namespace Go.Proofs.YtldbkigenaakkaaGreatDoorW.PrintWords
open Go.RowKit
section
variable {P : Program} {d : Nat} {xs ys : Array Value} {f : Field} {fs : List Field} {a b : Value} {r s : Bool} {w : World}
end
end Go.Proofs.YtldbkigenaakkaaGreatDoorW.PrintWords
