/- Words of the print that this seat's texts use (its own rows, shortened). -/
import Derived.Test.YtldbkigenaakkaaGreatDoorWTab
namespace Go.Proofs.YtldbkigenaakkaaGreatDoorW.PrintLast
def up (b : Nat → Bool) (i : Nat) : Nat → Bool := fun j => if j = i then true else b j
section
variable {P : Program} {ops : Array Oper} {Q : Exit → Act → World → Prop} {md : Region.Mode} {T : Bool × List (List Nat × List Nat)} {B : List Nat} {O : List Nat} {b : Nat → Bool} {i j n : Nat}
end
end Go.Proofs.YtldbkigenaakkaaGreatDoorW.PrintLast
