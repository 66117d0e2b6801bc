-- PRINTED by print.py (a twelfth state) out of the translation. Not trusted: Lean checks it.
import Derived.Test.YtchflcnegpnkkaaPrs
import Derived.Test.YtchflcnegpnkkaaQ0
namespace Go.Proofs.Ytchflcnegpnkkaa.Q
open Go.RowKit Go.Proofs.YtchflcnegpnkkaaPrs Go.Proofs.YtchflcnegpnkkaaOwn Go.Proofs.YtchflcnegpnkkaaW.PrintWords Go.Proofs.YtchflcnegpnkkaaW.PrintLast Go.Proofs.YtchflcnegpnkkaaW.PrintMore
attribute [local go_sem] max2_int min2_int max_two min_two max_three min_three max_four min_four   -- for this text's walks alone
set_option linter.unusedVariables false
set_option linter.unusedSimpArgs false

/-! ### land_apart: function 42 -/
def land_apart.f (a0 : Int) (a1 : Int) : Option (Bool) := if (wrap64 (a0 - a1)) > 1 then (some true) else (some (decide ((wrap64 (a1 - a0)) > 1)))
set_option maxHeartbeats 8000000 in
set_option maxRecDepth 100000 in
theorem land_apart.calls (a0 : Int) (a1 : Int) (r : Bool) (w : World) (h : land_apart.f a0 a1 = some r) :
    Calls Try.prog 42 #[.int .i64 a0, .int .i64 a1] w fun e w' => e = .returned (.bool r) ∧ Drawn0 w w' := by
 have H : (if (wrap64 (a0 - a1)) > 1 then (some true) else (some (decide ((wrap64 (a1 - a0)) > 1)))) = some r := h
 clear h
 by_cases c3 : (wrap64 (a0 - a1)) > 1
 ·rw [if_pos c3] at H
  have c3b0 : decide (1 < (wrap64 (a0 - a1))) = true := decide_eq_true c3
  clear c3
  obtain rfl := Option.some.inj H
  go_enter Try.func42, Try.ntmps42
  go_wp2
  go_ret
  exact ⟨tS_, by repeat (first | exact Drawn0.refl _ | apply Drawn0.step)⟩
 ·rw [if_neg c3] at H
  have c3b0 : decide (1 < (wrap64 (a0 - a1))) = false := decide_eq_false c3
  clear c3
  obtain rfl := Option.some.inj H
  go_enter Try.func42, Try.ntmps42
  go_wp2
  go_ret
  exact ⟨tS_, by repeat (first | exact Drawn0.refl _ | apply Drawn0.step)⟩

end Go.Proofs.Ytchflcnegpnkkaa.Q
