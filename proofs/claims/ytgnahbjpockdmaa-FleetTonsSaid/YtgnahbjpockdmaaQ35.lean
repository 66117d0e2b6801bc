-- PRINTED by print.py (a twelfth state) out of the translation. Not trusted: Lean checks it.
import Derived.Test.YtgnahbjpockdmaaQ0
namespace Go.Proofs.Ytgnahbjpockdmaa.Q
open Go.RowKit Go.Proofs.YtgnahbjpockdmaaOwn Go.Proofs.YtgnahbjpockdmaaW.PrintWords Go.Proofs.YtgnahbjpockdmaaW.PrintLast Go.Proofs.YtgnahbjpockdmaaW.PrintMore
attribute [local go_sem] max2_int min2_int max_two min_two max_three min_three max_four min_four   -- for this text's walks alone
set_option linter.unusedVariables false
set_option linter.unusedSimpArgs false

/-! ### hinterlandref09_Out: function 63 -/
def hinterlandref09_Out.f (a0 : Int) (a1 : Int) : Option (Bool) := if a0 < 0 then (some true) else (some (decide (a0 > a1)))
set_option maxHeartbeats 8000000 in
set_option maxRecDepth 100000 in
theorem hinterlandref09_Out.calls (a0 : Int) (a1 : Int) (r : Bool) (w : World) (h : hinterlandref09_Out.f a0 a1 = some r) :
    Calls Try.prog 63 #[.int .i64 a0, .int .i64 a1] w fun e w' => e = .returned (.bool r) ∧ Drawn0 w w' := by
 have H : (if a0 < 0 then (some true) else (some (decide (a0 > a1)))) = some r := h
 clear h
 by_cases c3 : a0 < 0
 ·rw [if_pos c3] at H
  have c3b0 : decide (a0 < 0) = true := decide_eq_true c3
  clear c3
  obtain rfl := Option.some.inj H
  go_enter Try.func63, Try.ntmps63
  go_wp2
  go_ret
  exact ⟨by first | rfl | (simp; done) | (simp [*]; done) | (refine congrArg (Value.int .i64) ?_; unfold wrap64; omega) | (simp only [shl_one_small _ (by assumption) (by omega)]; done) | (simp [*]; rw [shl_one_small _ (by assumption) (by omega)]; done), by repeat (first | exact Drawn0.refl _ | apply Drawn0.step)⟩
 ·rw [if_neg c3] at H
  have c3b0 : decide (a0 < 0) = false := decide_eq_false c3
  clear c3
  obtain rfl := Option.some.inj H
  go_enter Try.func63, Try.ntmps63
  go_wp2
  go_ret
  exact ⟨by first | rfl | (simp; done) | (simp [*]; done) | (refine congrArg (Value.int .i64) ?_; unfold wrap64; omega) | (simp only [shl_one_small _ (by assumption) (by omega)]; done) | (simp [*]; rw [shl_one_small _ (by assumption) (by omega)]; done), by repeat (first | exact Drawn0.refl _ | apply Drawn0.step)⟩

end Go.Proofs.Ytgnahbjpockdmaa.Q
