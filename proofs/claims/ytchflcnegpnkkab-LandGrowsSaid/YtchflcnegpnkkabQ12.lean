-- PRINTED by print.py (a twelfth state) out of the translation. Not trusted: Lean checks it.
import Derived.Test.YtchflcnegpnkkabPrs
import Derived.Test.YtchflcnegpnkkabQ0
namespace Go.Proofs.Ytchflcnegpnkkab.Q
open Go.RowKit Go.Proofs.YtchflcnegpnkkabPrs Go.Proofs.YtchflcnegpnkkabOwn Go.Proofs.YtchflcnegpnkkabW.PrintWords Go.Proofs.YtchflcnegpnkkabW.PrintLast Go.Proofs.YtchflcnegpnkkabW.PrintMore
attribute [local go_sem] max2_int min2_int max_two min_two max_three min_three max_four min_four   -- for this text's walks alone
set_option linter.unusedVariables false
set_option linter.unusedSimpArgs false

/-! ### land_far: function 35 -/
def land_far.f (a0 : Int) (a1 : Int) (a2 : Int) (a3 : Int) : Option (Int) := some (wrap64 ((mx (wrap64 (a0 - a2)) (wrap64 (a2 - a0))) + (mx (wrap64 (a1 - a3)) (wrap64 (a3 - a1)))))
set_option maxHeartbeats 8000000 in
set_option maxRecDepth 100000 in
theorem land_far.calls (a0 : Int) (a1 : Int) (a2 : Int) (a3 : Int) (r : Int) (w : World) (h : land_far.f a0 a1 a2 a3 = some r) :
    Calls Try.prog 35 #[.int .i64 a0, .int .i64 a1, .int .i64 a2, .int .i64 a3] w fun e w' => e = .returned (.int .i64 r) ∧ Below w.heap.size w w' := by
 have HB := Aside0.mk (Below.refl w.heap.size w)
 have H : (some (wrap64 ((mx (wrap64 (a0 - a2)) (wrap64 (a2 - a0))) + (mx (wrap64 (a1 - a3)) (wrap64 (a3 - a1)))))) = some r := h
 clear h
 obtain ⟨ji5, hji5⟩ : ∃ j_ : Int, (mx (wrap64 (a0 - a2)) (wrap64 (a2 - a0))) = j_ := ⟨_, rfl⟩
 replace H : (some (wrap64 ((ji5) + (mx (wrap64 (a1 - a3)) (wrap64 (a3 - a1)))))) = some r := by first | (rw [hji5] at H; exact H) | (simp only [hji5] at H ⊢; exact H)
 have hji5_ : (if (wrap64 (a0 - a2)) < (wrap64 (a2 - a0)) then (wrap64 (a2 - a0)) else (wrap64 (a0 - a2))) = ji5 := hji5
 obtain ⟨ji6, hji6⟩ : ∃ j_ : Int, (mx (wrap64 (a1 - a3)) (wrap64 (a3 - a1))) = j_ := ⟨_, rfl⟩
 replace H : (some (wrap64 ((ji5) + (ji6)))) = some r := by first | (rw [hji6] at H; exact H) | (simp only [hji6] at H ⊢; exact H)
 have hji6_ : (if (wrap64 (a1 - a3)) < (wrap64 (a3 - a1)) then (wrap64 (a3 - a1)) else (wrap64 (a1 - a3))) = ji6 := hji6
 obtain rfl := Option.some.inj H
 go_enter Try.func35, Try.ntmps35
 go_wp2
 go_ret
 exact ⟨by first | rfl | (simp [errW_none, errW_some] <;> rfl) | (simp only [← hji5, ← hji6]; first | rfl | (simp [errW_none, errW_some] <;> rfl)) | (simp [*, errW_none, errW_some] <;> rfl), dL_ HB⟩

end Go.Proofs.Ytchflcnegpnkkab.Q
