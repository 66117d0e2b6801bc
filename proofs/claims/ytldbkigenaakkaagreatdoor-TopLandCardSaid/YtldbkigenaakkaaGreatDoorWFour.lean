/- Words of the print that this seat's texts use (its own rows, shortened). -/
import Derived.Test.YtldbkigenaakkaaGreatDoorWTab
namespace Go.Proofs.YtldbkigenaakkaaGreatDoorW.PrintLast
section
variable {P : Program} {ops : Array Oper} {Q : Exit → Act → World → Prop} {md : Region.Mode} {S : World → Prop} {ds : List Nat} {T : Bool × List (List Nat × List Nat)}
end
end Go.Proofs.YtldbkigenaakkaaGreatDoorW.PrintLast
