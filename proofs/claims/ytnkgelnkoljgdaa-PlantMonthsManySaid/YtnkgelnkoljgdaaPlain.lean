/- Plain words for the pure statements: what the bounds of the arguments say, and wraps. -/
import Derived.Test.YtnkgelnkoljgdaaOpen
import Derived.OpenShut
namespace Go.Proofs.YtnkgelnkoljgdaaOwn
open Go.RowKit Go.Proofs.YtnkgelnkoljgdaaW.PrintWords
theorem wInt_u64 {n : Int} (h : wInt .u64 n) : 0 ≤ n ∧ n ≤ 18446744073709551615 := bounds_u64 h
theorem wInt_i64 {n : Int} (h : wInt .i64 n) : -9223372036854775808 ≤ n ∧ n ≤ 9223372036854775807 := bounds_i64 h
theorem u64w (x : Int) : IntKind.u64.wrap x = x % 18446744073709551616 := by
  simp [IntKind.wrap, IntKind.signed, IntKind.bits]
theorem w64_in {x : Int} (h0 : -9223372036854775808 ≤ x) (h1 : x ≤ 9223372036854775807) : wrap64 x = x := by unfold wrap64; omega
end Go.Proofs.YtnkgelnkoljgdaaOwn
