/- Words of the print that this seat's texts use (its own rows, shortened). -/
import Derived.Test.YtldbkigenaakkaaGreatDoorWN
namespace Go.Proofs.YtldbkigenaakkaaGreatDoorW.PrintWords
open Go.RowKit
namespace Kd
section
variable {α : Type} {d : Kd α} {W : World} {g n : Nat} {S ok : Nat → Prop} {A : Option Addr} {ad : Addr} {xs : List α}
end
end Kd
end Go.Proofs.YtldbkigenaakkaaGreatDoorW.PrintWords
