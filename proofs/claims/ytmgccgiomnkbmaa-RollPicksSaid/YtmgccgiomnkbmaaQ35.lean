-- PRINTED by print.py (a twelfth state) out of the translation. Not trusted: Lean checks it.
import Derived.Test.YtmgccgiomnkbmaaQ0
namespace Go.Proofs.Ytmgccgiomnkbmaa.Q
open Go.RowKit Go.Proofs.YtmgccgiomnkbmaaOwn Go.Proofs.YtmgccgiomnkbmaaW.PrintWords Go.Proofs.YtmgccgiomnkbmaaW.PrintLast Go.Proofs.YtmgccgiomnkbmaaW.PrintMore
attribute [local go_sem] max2_int min2_int max_two min_two max_three min_three max_four min_four   -- for this text's walks alone
set_option linter.unusedVariables false
set_option linter.unusedSimpArgs false

/-! ### roll_Pick_1: function 40 -/
def roll_Pick_1.f (a0 : Int) (l0 : List Int) : Option Int := if 0 ≤ a0 then (if a0 < (l0.length : Int) then some (mx 0 (mn (rd l0 a0) 1048576)) else none) else none
set_option maxHeartbeats 8000000 in
set_option maxRecDepth 100000 in
theorem roll_Pick_1.calls (a0 : Int) (g : Nat) (A0 : Option Addr) (c0 : Nat) (l0 : List Int) (r : Int) (w : World) (hg : w.heap[g]? = some (.cells #[.slice A0 l0.length c0] 49 (0, 0))) (hr0 : Kd.C (Kd.int .i64) w A0 l0.length l0) (h : roll_Pick_1.f a0 l0 = some r) :
    Calls Try.prog 40 #[.int .i64 a0, .pointer (some ⟨g, 0, none⟩)] w fun e w' => e = .returned (.int .i64 r) ∧ Below w.heap.size w w' := by
 have HR0 := Aside0.mk hr0
 have HB := Aside0.mk (Below.refl w.heap.size w)
 have hcz0 : w.cell? ⟨g, 0, none⟩ = some (.slice A0 l0.length c0) := (blk_cell hg 0).trans rfl
 clear hr0 hg
 have H : (if 0 ≤ a0 then (if a0 < (l0.length : Int) then some (mx 0 (mn (rd l0 a0) 1048576)) else none) else none) = some r := h
 clear h
 by_cases c5 : 0 ≤ a0
 ·rw [if_pos c5] at H
  have c5b0 : decide (0 ≤ a0) = true := decide_eq_true c5
  clear c5
  by_cases c6 : a0 < (l0.length : Int)
  ·rw [if_pos c6] at H
   have c6b0 : decide (a0 < (l0.length : Int)) = true := decide_eq_true c6
   clear c6
   obtain ⟨ji2, hji2⟩ : ∃ j_ : Int, (mn (rd l0 a0) 1048576) = j_ := ⟨_, rfl⟩
   replace H : (some (mx 0 (ji2))) = some r := by rw [hji2] at H; exact H
   have hji2_ : (if 1048576 < (rd l0 a0) then 1048576 else (rd l0 a0)) = ji2 := hji2
   obtain ⟨ji3, hji3⟩ : ∃ j_ : Int, (mx 0 (ji2)) = j_ := ⟨_, rfl⟩
   replace H : (some ji3) = some r := by rw [hji3] at H; exact H
   have hji3_ : (if 0 < (ji2) then (ji2) else 0) = ji3 := hji3
   obtain rfl := Option.some.inj H
   have p1 : 0 ≤ (a0 : Int) := of_decide_eq_true c5b0
   have q1 : a0 < (l0.length : Int) := of_decide_eq_true c6b0
   obtain ⟨ad1, e1, hx1_0⟩ := Kd.at_int HR0.out a0 p1 q1
   cases e1
   replace p1 := eq_true p1
   replace q1 := eq_true q1
   go_enter Try.func40, Try.ntmps40
   go_wp2
   go_ret
   exact ⟨by first | rfl | (simp only [← hji2, ← hji3]; first | rfl | (simp [errW_none, errW_some] <;> rfl)) | (simp [*, errW_none, errW_some] <;> rfl), by repeat (first | (with_reducible first | exact HB.out | apply below_alloc | apply pw_below_drewN | apply below_drew1) | exact HB.out)⟩
  ·rw [if_neg c6] at H; cases H
 ·rw [if_neg c5] at H; cases H

end Go.Proofs.Ytmgccgiomnkbmaa.Q
