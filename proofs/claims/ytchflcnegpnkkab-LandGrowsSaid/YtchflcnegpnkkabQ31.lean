-- PRINTED by print.py (a twelfth state) out of the translation. Not trusted: Lean checks it.
import Derived.Test.YtchflcnegpnkkabPrs
import Derived.Test.YtchflcnegpnkkabQ0
namespace Go.Proofs.Ytchflcnegpnkkab.Q
open Go.RowKit Go.Proofs.YtchflcnegpnkkabPrs Go.Proofs.YtchflcnegpnkkabOwn Go.Proofs.YtchflcnegpnkkabW.PrintWords Go.Proofs.YtchflcnegpnkkabW.PrintLast Go.Proofs.YtchflcnegpnkkabW.PrintMore
attribute [local go_sem] max2_int min2_int max_two min_two max_three min_three max_four min_four   -- for this text's walks alone
set_option linter.unusedVariables false
set_option linter.unusedSimpArgs false

/-! ### hinterlandref01_At: function 38 -/
def hinterlandref01_At.f (a0_0 : Int) (a1 : Int) : Option (Int) := some (Go.bits .xor .u64 (IntKind.u64.wrap ((Go.bits .xor .u64 (IntKind.u64.wrap ((Go.bits .xor .u64 (IntKind.u64.wrap (a0_0 + (IntKind.u64.wrap (a1 * 11400714819323198485)))) ((IntKind.u64.wrap (a0_0 + (IntKind.u64.wrap (a1 * 11400714819323198485)))) / 1073741824)) * 13787848793156543929)) ((IntKind.u64.wrap ((Go.bits .xor .u64 (IntKind.u64.wrap (a0_0 + (IntKind.u64.wrap (a1 * 11400714819323198485)))) ((IntKind.u64.wrap (a0_0 + (IntKind.u64.wrap (a1 * 11400714819323198485)))) / 1073741824)) * 13787848793156543929)) / 134217728)) * 10723151780598845931)) ((IntKind.u64.wrap ((Go.bits .xor .u64 (IntKind.u64.wrap ((Go.bits .xor .u64 (IntKind.u64.wrap (a0_0 + (IntKind.u64.wrap (a1 * 11400714819323198485)))) ((IntKind.u64.wrap (a0_0 + (IntKind.u64.wrap (a1 * 11400714819323198485)))) / 1073741824)) * 13787848793156543929)) ((IntKind.u64.wrap ((Go.bits .xor .u64 (IntKind.u64.wrap (a0_0 + (IntKind.u64.wrap (a1 * 11400714819323198485)))) ((IntKind.u64.wrap (a0_0 + (IntKind.u64.wrap (a1 * 11400714819323198485)))) / 1073741824)) * 13787848793156543929)) / 134217728)) * 10723151780598845931)) / 2147483648))
set_option maxHeartbeats 8000000 in
set_option maxRecDepth 100000 in
theorem hinterlandref01_At.calls (a0_0 : Int) (a1 : Int) (r : Int) (w : World) (h : hinterlandref01_At.f a0_0 a1 = some r) :
    Calls Try.prog 38 #[.agg #[.int .u64 a0_0], .int .u64 a1] w fun e w' => e = .returned (.int .u64 r) ∧ Below w.heap.size w w' := by
 have hu52 := Try.underlying52
 have HB := Aside0.mk (Below.refl w.heap.size w)
 have H : (some (Go.bits .xor .u64 (IntKind.u64.wrap ((Go.bits .xor .u64 (IntKind.u64.wrap ((Go.bits .xor .u64 (IntKind.u64.wrap (a0_0 + (IntKind.u64.wrap (a1 * 11400714819323198485)))) ((IntKind.u64.wrap (a0_0 + (IntKind.u64.wrap (a1 * 11400714819323198485)))) / 1073741824)) * 13787848793156543929)) ((IntKind.u64.wrap ((Go.bits .xor .u64 (IntKind.u64.wrap (a0_0 + (IntKind.u64.wrap (a1 * 11400714819323198485)))) ((IntKind.u64.wrap (a0_0 + (IntKind.u64.wrap (a1 * 11400714819323198485)))) / 1073741824)) * 13787848793156543929)) / 134217728)) * 10723151780598845931)) ((IntKind.u64.wrap ((Go.bits .xor .u64 (IntKind.u64.wrap ((Go.bits .xor .u64 (IntKind.u64.wrap (a0_0 + (IntKind.u64.wrap (a1 * 11400714819323198485)))) ((IntKind.u64.wrap (a0_0 + (IntKind.u64.wrap (a1 * 11400714819323198485)))) / 1073741824)) * 13787848793156543929)) ((IntKind.u64.wrap ((Go.bits .xor .u64 (IntKind.u64.wrap (a0_0 + (IntKind.u64.wrap (a1 * 11400714819323198485)))) ((IntKind.u64.wrap (a0_0 + (IntKind.u64.wrap (a1 * 11400714819323198485)))) / 1073741824)) * 13787848793156543929)) / 134217728)) * 10723151780598845931)) / 2147483648))) = some r := h
 clear h
 obtain rfl := Option.some.inj H
 go_enter Try.func38, Try.ntmps38
 go_wp2_with (first | ((with_reducible refine gate_dst (N := 2) rfl ?_); refine box_event ?hg (N := 2) ?hd (cs := #[.int .u64 a0_0]) (t := 52) ?hr ?_; (case hd => rfl); (case hg => rfl); (case hr => first | (go_simp; done) | (go_simp; rfl)); intro gb301 hg w3 hbox hb; have BK301 := Aside0.mk (hbox); have GW301 := Aside0.mk ((dS_ hg (dL_ HB) : w.heap.size ≤ gb301)); have GE301 := Aside0.mk ((dS_ hg (dL_ HB) : w.heap.size ≤ gb301)); replace HB := Aside0.mk (below_step (dL_ HB) hb); clear hb hbox hg; have hcz4_0 : w3.cell? ⟨gb301, 0, none⟩ = some (.int .u64 a0_0) := (blk_cell BK301.out 0).trans rfl; have hfz4_0 := blk_frozen BK301.out 0))
 go_ret
 exact ⟨tE_, dL1_ HB GE301⟩

end Go.Proofs.Ytchflcnegpnkkab.Q
