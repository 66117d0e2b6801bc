-- PRINTED by print.py (a twelfth state) out of the translation. Not trusted: Lean checks it.
import Derived.Test.YtchflcnegpnkkaaPrs
import Derived.Test.YtchflcnegpnkkaaQ0
namespace Go.Proofs.Ytchflcnegpnkkaa.Q
open Go.RowKit Go.Proofs.YtchflcnegpnkkaaPrs Go.Proofs.YtchflcnegpnkkaaOwn Go.Proofs.YtchflcnegpnkkaaW.PrintWords Go.Proofs.YtchflcnegpnkkaaW.PrintLast Go.Proofs.YtchflcnegpnkkaaW.PrintMore
attribute [local go_sem] max2_int min2_int max_two min_two max_three min_three max_four min_four   -- for this text's walks alone
set_option linter.unusedVariables false
set_option linter.unusedSimpArgs false

/-! ### land_sides: function 54 -/
def land_sides.f (a0 : Int) (a1 : Int) : Option (Bool) := if a0 ≥ 4 then (if a0 ≤ 32 then (if a1 ≥ 4 then (some (decide (a1 ≤ 32))) else (some false)) else (some false)) else (some false)
set_option maxHeartbeats 8000000 in
set_option maxRecDepth 100000 in
theorem land_sides.calls (a0 : Int) (a1 : Int) (r : Bool) (w : World) (h : land_sides.f a0 a1 = some r) :
    Calls Try.prog 54 #[.int .i64 a0, .int .i64 a1] w fun e w' => e = .returned (.bool r) ∧ Drawn0 w w' := by
 have H : (if a0 ≥ 4 then (if a0 ≤ 32 then (if a1 ≥ 4 then (some (decide (a1 ≤ 32))) else (some false)) else (some false)) else (some false)) = some r := h
 clear h
 by_cases c3 : a0 ≥ 4
 ·rw [if_pos c3] at H
  have c3b0 : decide (4 ≤ a0) = true := decide_eq_true c3
  clear c3
  by_cases c4 : a0 ≤ 32
  ·rw [if_pos c4] at H
   have c4b0 : decide (a0 ≤ 32) = true := decide_eq_true c4
   clear c4
   by_cases c5 : a1 ≥ 4
   ·rw [if_pos c5] at H
    have c5b0 : decide (4 ≤ a1) = true := decide_eq_true c5
    clear c5
    obtain rfl := Option.some.inj H
    go_enter Try.func54, Try.ntmps54
    go_wp2
    go_ret
    exact ⟨tS_, by repeat (first | exact Drawn0.refl _ | apply Drawn0.step)⟩
   ·rw [if_neg c5] at H
    have c5b0 : decide (4 ≤ a1) = false := decide_eq_false c5
    clear c5
    obtain rfl := Option.some.inj H
    go_enter Try.func54, Try.ntmps54
    go_wp2
    go_ret
    exact ⟨tS_, by repeat (first | exact Drawn0.refl _ | apply Drawn0.step)⟩
  ·rw [if_neg c4] at H
   have c4b0 : decide (a0 ≤ 32) = false := decide_eq_false c4
   clear c4
   obtain rfl := Option.some.inj H
   go_enter Try.func54, Try.ntmps54
   go_wp2
   go_ret
   exact ⟨tS_, by repeat (first | exact Drawn0.refl _ | apply Drawn0.step)⟩
 ·rw [if_neg c3] at H
  have c3b0 : decide (4 ≤ a0) = false := decide_eq_false c3
  clear c3
  obtain rfl := Option.some.inj H
  go_enter Try.func54, Try.ntmps54
  go_wp2
  go_ret
  exact ⟨tS_, by repeat (first | exact Drawn0.refl _ | apply Drawn0.step)⟩

end Go.Proofs.Ytchflcnegpnkkaa.Q
