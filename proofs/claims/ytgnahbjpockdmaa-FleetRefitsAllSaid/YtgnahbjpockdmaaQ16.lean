-- PRINTED by print.py out of the translation. Not trusted: Lean checks it.
import Derived.Test.YtgnahbjpockdmaaPrs
import Derived.Test.YtgnahbjpockdmaaQ0
import Derived.Test.YtgnahbjpockdmaaQ13
namespace Go.Proofs.Ytgnahbjpockdmaa.Q
open Go.RowKit Go.Proofs.YtgnahbjpockdmaaPrs Go.Proofs.YtgnahbjpockdmaaOwn Go.Proofs.YtgnahbjpockdmaaW.PrintWords Go.Proofs.YtgnahbjpockdmaaW.PrintLast Go.Proofs.YtgnahbjpockdmaaW.PrintMore
attribute [local go_sem] max2_int min2_int max_two min_two max_three min_three max_four min_four   -- for this text's walks alone
set_option linter.unusedVariables false
set_option linter.unusedSimpArgs false

/-! ### hinterlandref14_right: function 38 -/
def hinterlandref14_right.f (k : Nat) (a0_0 : ByteArray) (a0_1 : Int) (a0_2 : Int) (a0_3 : Int) (a0_4 : Int) (a0_5 : Int) (a0_6 : Int) (a0_7 : Int) (a0_8 : Int) (a0_9 : Int) (a0_10 : Int) (a0_11 : Int) (a0_12 : Int) (a0_13 : Bool) : Option (Bool) := (hinterlandref10_Named.f k a0_0).bind fun t219 => (if t219 = true then ((hinterlandref14_within.f a0_1 0 3).bind fun t220 => (if t220 = true then ((hinterlandref14_within.f a0_2 0 600).bind fun t221 => (if t221 = true then ((hinterlandref14_within.f a0_3 0 20000).bind fun t222 => (if t222 = true then ((hinterlandref14_within.f a0_4 1 1000).bind fun t223 => (if t223 = true then ((hinterlandref14_within.f a0_5 0 2000).bind fun t224 => (if t224 = true then ((hinterlandref14_within.f a0_6 (-1) 15).bind fun t225 => (if t225 = true then ((hinterlandref14_within.f a0_7 0 1000).bind fun t226 => (if t226 = true then ((hinterlandref14_within.f a0_8 1 16).bind fun t227 => (if t227 = true then ((hinterlandref14_within.f a0_9 0 10000000).bind fun t228 => (if t228 = true then ((hinterlandref14_within.f a0_10 0 10000000).bind fun t229 => (if t229 = true then ((hinterlandref14_within.f a0_11 1 100).bind fun t230 => (if t230 = true then ((hinterlandref14_within.f a0_12 0 1000).bind fun t231 => (some t231)) else (some false))) else (some false))) else (some false))) else (some false))) else (some false))) else (some false))) else (some false))) else (some false))) else (some false))) else (some false))) else (some false))) else (some false))
theorem hinterlandref14_right.mono : ∀ a0 a1 a2 a3 a4 a5 a6 a7 a8 a9 a10 a11 a12 a13 k, LeO (hinterlandref14_right.f k a0 a1 a2 a3 a4 a5 a6 a7 a8 a9 a10 a11 a12 a13) (hinterlandref14_right.f (k + 1) a0 a1 a2 a3 a4 a5 a6 a7 a8 a9 a10 a11 a12 a13) := by
  intro a0 a1 a2 a3 a4 a5 a6 a7 a8 a9 a10 a11 a12 a13 k
  unfold hinterlandref14_right.f
  repeat' first
      | (with_reducible exact hinterlandref10_Named.mono _ _)
      | (with_reducible exact LeO.refl _)
      | (with_reducible exact LeO.none _)
      | (with_reducible refine LeO.ite ?_ ?_)
      | (with_reducible refine LeO.bind ?_ (fun _ => ?_))
      | exact hinterlandref10_Named.mono _ _
      | exact LeO.none _
      | refine LeO.ite ?_ ?_
      | refine LeO.bind ?_ (fun _ => ?_)
set_option maxHeartbeats 8000000 in
set_option maxRecDepth 100000 in
theorem hinterlandref14_right.calls (k : Nat) (a0_0 : ByteArray) (a0_1 : Int) (a0_2 : Int) (a0_3 : Int) (a0_4 : Int) (a0_5 : Int) (a0_6 : Int) (a0_7 : Int) (a0_8 : Int) (a0_9 : Int) (a0_10 : Int) (a0_11 : Int) (a0_12 : Int) (a0_13 : Bool) (r : Bool) (w : World) (h : hinterlandref14_right.f k a0_0 a0_1 a0_2 a0_3 a0_4 a0_5 a0_6 a0_7 a0_8 a0_9 a0_10 a0_11 a0_12 a0_13 = some r) :
    Calls Try.prog 38 #[.agg #[.string a0_0, .int .i64 a0_1, .int .i64 a0_2, .int .i64 a0_3, .int .i64 a0_4, .int .i64 a0_5, .int .i64 a0_6, .int .i64 a0_7, .int .i64 a0_8, .int .i64 a0_9, .int .i64 a0_10, .int .i64 a0_11, .int .i64 a0_12, .bool a0_13]] w fun e w' => e = .returned (.bool r) ∧ Below w.heap.size w w' := by
 have hu54 := Try.underlying54
 have HB := Aside0.mk (Below.refl w.heap.size w)
 have H : ((hinterlandref10_Named.f k a0_0).bind fun t219 => (if t219 = true then ((hinterlandref14_within.f a0_1 0 3).bind fun t220 => (if t220 = true then ((hinterlandref14_within.f a0_2 0 600).bind fun t221 => (if t221 = true then ((hinterlandref14_within.f a0_3 0 20000).bind fun t222 => (if t222 = true then ((hinterlandref14_within.f a0_4 1 1000).bind fun t223 => (if t223 = true then ((hinterlandref14_within.f a0_5 0 2000).bind fun t224 => (if t224 = true then ((hinterlandref14_within.f a0_6 (-1) 15).bind fun t225 => (if t225 = true then ((hinterlandref14_within.f a0_7 0 1000).bind fun t226 => (if t226 = true then ((hinterlandref14_within.f a0_8 1 16).bind fun t227 => (if t227 = true then ((hinterlandref14_within.f a0_9 0 10000000).bind fun t228 => (if t228 = true then ((hinterlandref14_within.f a0_10 0 10000000).bind fun t229 => (if t229 = true then ((hinterlandref14_within.f a0_11 1 100).bind fun t230 => (if t230 = true then ((hinterlandref14_within.f a0_12 0 1000).bind fun t231 => (some t231)) else (some false))) else (some false))) else (some false))) else (some false))) else (some false))) else (some false))) else (some false))) else (some false))) else (some false))) else (some false))) else (some false))) else (some false))) = some r := h
 clear h
 replace H := Option.bind_eq_some_iff.mp H
 obtain ⟨t219, A20, H⟩ := H
 replace H : (if t219 = true then ((hinterlandref14_within.f a0_1 0 3).bind fun t220 => (if t220 = true then ((hinterlandref14_within.f a0_2 0 600).bind fun t221 => (if t221 = true then ((hinterlandref14_within.f a0_3 0 20000).bind fun t222 => (if t222 = true then ((hinterlandref14_within.f a0_4 1 1000).bind fun t223 => (if t223 = true then ((hinterlandref14_within.f a0_5 0 2000).bind fun t224 => (if t224 = true then ((hinterlandref14_within.f a0_6 (-1) 15).bind fun t225 => (if t225 = true then ((hinterlandref14_within.f a0_7 0 1000).bind fun t226 => (if t226 = true then ((hinterlandref14_within.f a0_8 1 16).bind fun t227 => (if t227 = true then ((hinterlandref14_within.f a0_9 0 10000000).bind fun t228 => (if t228 = true then ((hinterlandref14_within.f a0_10 0 10000000).bind fun t229 => (if t229 = true then ((hinterlandref14_within.f a0_11 1 100).bind fun t230 => (if t230 = true then ((hinterlandref14_within.f a0_12 0 1000).bind fun t231 => (some t231)) else (some false))) else (some false))) else (some false))) else (some false))) else (some false))) else (some false))) else (some false))) else (some false))) else (some false))) else (some false))) else (some false))) else (some false)) = some r := H
 have A2 := Aside0.mk A20
 clear A20
 by_cases c3 : t219 = true
 ·subst c3
  have H1 : ((hinterlandref14_within.f a0_1 0 3).bind fun t220 => (if t220 = true then ((hinterlandref14_within.f a0_2 0 600).bind fun t221 => (if t221 = true then ((hinterlandref14_within.f a0_3 0 20000).bind fun t222 => (if t222 = true then ((hinterlandref14_within.f a0_4 1 1000).bind fun t223 => (if t223 = true then ((hinterlandref14_within.f a0_5 0 2000).bind fun t224 => (if t224 = true then ((hinterlandref14_within.f a0_6 (-1) 15).bind fun t225 => (if t225 = true then ((hinterlandref14_within.f a0_7 0 1000).bind fun t226 => (if t226 = true then ((hinterlandref14_within.f a0_8 1 16).bind fun t227 => (if t227 = true then ((hinterlandref14_within.f a0_9 0 10000000).bind fun t228 => (if t228 = true then ((hinterlandref14_within.f a0_10 0 10000000).bind fun t229 => (if t229 = true then ((hinterlandref14_within.f a0_11 1 100).bind fun t230 => (if t230 = true then ((hinterlandref14_within.f a0_12 0 1000).bind fun t231 => (some t231)) else (some false))) else (some false))) else (some false))) else (some false))) else (some false))) else (some false))) else (some false))) else (some false))) else (some false))) else (some false))) else (some false))) = some r := by rw [if_pos rfl] at H; exact H
  clear H
  have H := H1
  clear H1
  replace H := Option.bind_eq_some_iff.mp H
  obtain ⟨t220, A40, H⟩ := H
  replace H : (if t220 = true then ((hinterlandref14_within.f a0_2 0 600).bind fun t221 => (if t221 = true then ((hinterlandref14_within.f a0_3 0 20000).bind fun t222 => (if t222 = true then ((hinterlandref14_within.f a0_4 1 1000).bind fun t223 => (if t223 = true then ((hinterlandref14_within.f a0_5 0 2000).bind fun t224 => (if t224 = true then ((hinterlandref14_within.f a0_6 (-1) 15).bind fun t225 => (if t225 = true then ((hinterlandref14_within.f a0_7 0 1000).bind fun t226 => (if t226 = true then ((hinterlandref14_within.f a0_8 1 16).bind fun t227 => (if t227 = true then ((hinterlandref14_within.f a0_9 0 10000000).bind fun t228 => (if t228 = true then ((hinterlandref14_within.f a0_10 0 10000000).bind fun t229 => (if t229 = true then ((hinterlandref14_within.f a0_11 1 100).bind fun t230 => (if t230 = true then ((hinterlandref14_within.f a0_12 0 1000).bind fun t231 => (some t231)) else (some false))) else (some false))) else (some false))) else (some false))) else (some false))) else (some false))) else (some false))) else (some false))) else (some false))) else (some false))) else (some false)) = some r := H
  have A4 := Aside0.mk A40
  clear A40
  by_cases c5 : t220 = true
  ·subst c5
   have H1 : ((hinterlandref14_within.f a0_2 0 600).bind fun t221 => (if t221 = true then ((hinterlandref14_within.f a0_3 0 20000).bind fun t222 => (if t222 = true then ((hinterlandref14_within.f a0_4 1 1000).bind fun t223 => (if t223 = true then ((hinterlandref14_within.f a0_5 0 2000).bind fun t224 => (if t224 = true then ((hinterlandref14_within.f a0_6 (-1) 15).bind fun t225 => (if t225 = true then ((hinterlandref14_within.f a0_7 0 1000).bind fun t226 => (if t226 = true then ((hinterlandref14_within.f a0_8 1 16).bind fun t227 => (if t227 = true then ((hinterlandref14_within.f a0_9 0 10000000).bind fun t228 => (if t228 = true then ((hinterlandref14_within.f a0_10 0 10000000).bind fun t229 => (if t229 = true then ((hinterlandref14_within.f a0_11 1 100).bind fun t230 => (if t230 = true then ((hinterlandref14_within.f a0_12 0 1000).bind fun t231 => (some t231)) else (some false))) else (some false))) else (some false))) else (some false))) else (some false))) else (some false))) else (some false))) else (some false))) else (some false))) else (some false))) = some r := by rw [if_pos rfl] at H; exact H
   clear H
   have H := H1
   clear H1
   replace H := Option.bind_eq_some_iff.mp H
   obtain ⟨t221, A60, H⟩ := H
   replace H : (if t221 = true then ((hinterlandref14_within.f a0_3 0 20000).bind fun t222 => (if t222 = true then ((hinterlandref14_within.f a0_4 1 1000).bind fun t223 => (if t223 = true then ((hinterlandref14_within.f a0_5 0 2000).bind fun t224 => (if t224 = true then ((hinterlandref14_within.f a0_6 (-1) 15).bind fun t225 => (if t225 = true then ((hinterlandref14_within.f a0_7 0 1000).bind fun t226 => (if t226 = true then ((hinterlandref14_within.f a0_8 1 16).bind fun t227 => (if t227 = true then ((hinterlandref14_within.f a0_9 0 10000000).bind fun t228 => (if t228 = true then ((hinterlandref14_within.f a0_10 0 10000000).bind fun t229 => (if t229 = true then ((hinterlandref14_within.f a0_11 1 100).bind fun t230 => (if t230 = true then ((hinterlandref14_within.f a0_12 0 1000).bind fun t231 => (some t231)) else (some false))) else (some false))) else (some false))) else (some false))) else (some false))) else (some false))) else (some false))) else (some false))) else (some false))) else (some false)) = some r := H
   have A6 := Aside0.mk A60
   clear A60
   by_cases c7 : t221 = true
   ·subst c7
    have H1 : ((hinterlandref14_within.f a0_3 0 20000).bind fun t222 => (if t222 = true then ((hinterlandref14_within.f a0_4 1 1000).bind fun t223 => (if t223 = true then ((hinterlandref14_within.f a0_5 0 2000).bind fun t224 => (if t224 = true then ((hinterlandref14_within.f a0_6 (-1) 15).bind fun t225 => (if t225 = true then ((hinterlandref14_within.f a0_7 0 1000).bind fun t226 => (if t226 = true then ((hinterlandref14_within.f a0_8 1 16).bind fun t227 => (if t227 = true then ((hinterlandref14_within.f a0_9 0 10000000).bind fun t228 => (if t228 = true then ((hinterlandref14_within.f a0_10 0 10000000).bind fun t229 => (if t229 = true then ((hinterlandref14_within.f a0_11 1 100).bind fun t230 => (if t230 = true then ((hinterlandref14_within.f a0_12 0 1000).bind fun t231 => (some t231)) else (some false))) else (some false))) else (some false))) else (some false))) else (some false))) else (some false))) else (some false))) else (some false))) else (some false))) = some r := by rw [if_pos rfl] at H; exact H
    clear H
    have H := H1
    clear H1
    replace H := Option.bind_eq_some_iff.mp H
    obtain ⟨t222, A80, H⟩ := H
    replace H : (if t222 = true then ((hinterlandref14_within.f a0_4 1 1000).bind fun t223 => (if t223 = true then ((hinterlandref14_within.f a0_5 0 2000).bind fun t224 => (if t224 = true then ((hinterlandref14_within.f a0_6 (-1) 15).bind fun t225 => (if t225 = true then ((hinterlandref14_within.f a0_7 0 1000).bind fun t226 => (if t226 = true then ((hinterlandref14_within.f a0_8 1 16).bind fun t227 => (if t227 = true then ((hinterlandref14_within.f a0_9 0 10000000).bind fun t228 => (if t228 = true then ((hinterlandref14_within.f a0_10 0 10000000).bind fun t229 => (if t229 = true then ((hinterlandref14_within.f a0_11 1 100).bind fun t230 => (if t230 = true then ((hinterlandref14_within.f a0_12 0 1000).bind fun t231 => (some t231)) else (some false))) else (some false))) else (some false))) else (some false))) else (some false))) else (some false))) else (some false))) else (some false))) else (some false)) = some r := H
    have A8 := Aside0.mk A80
    clear A80
    by_cases c9 : t222 = true
    ·subst c9
     have H1 : ((hinterlandref14_within.f a0_4 1 1000).bind fun t223 => (if t223 = true then ((hinterlandref14_within.f a0_5 0 2000).bind fun t224 => (if t224 = true then ((hinterlandref14_within.f a0_6 (-1) 15).bind fun t225 => (if t225 = true then ((hinterlandref14_within.f a0_7 0 1000).bind fun t226 => (if t226 = true then ((hinterlandref14_within.f a0_8 1 16).bind fun t227 => (if t227 = true then ((hinterlandref14_within.f a0_9 0 10000000).bind fun t228 => (if t228 = true then ((hinterlandref14_within.f a0_10 0 10000000).bind fun t229 => (if t229 = true then ((hinterlandref14_within.f a0_11 1 100).bind fun t230 => (if t230 = true then ((hinterlandref14_within.f a0_12 0 1000).bind fun t231 => (some t231)) else (some false))) else (some false))) else (some false))) else (some false))) else (some false))) else (some false))) else (some false))) else (some false))) = some r := by rw [if_pos rfl] at H; exact H
     clear H
     have H := H1
     clear H1
     replace H := Option.bind_eq_some_iff.mp H
     obtain ⟨t223, A100, H⟩ := H
     replace H : (if t223 = true then ((hinterlandref14_within.f a0_5 0 2000).bind fun t224 => (if t224 = true then ((hinterlandref14_within.f a0_6 (-1) 15).bind fun t225 => (if t225 = true then ((hinterlandref14_within.f a0_7 0 1000).bind fun t226 => (if t226 = true then ((hinterlandref14_within.f a0_8 1 16).bind fun t227 => (if t227 = true then ((hinterlandref14_within.f a0_9 0 10000000).bind fun t228 => (if t228 = true then ((hinterlandref14_within.f a0_10 0 10000000).bind fun t229 => (if t229 = true then ((hinterlandref14_within.f a0_11 1 100).bind fun t230 => (if t230 = true then ((hinterlandref14_within.f a0_12 0 1000).bind fun t231 => (some t231)) else (some false))) else (some false))) else (some false))) else (some false))) else (some false))) else (some false))) else (some false))) else (some false)) = some r := H
     have A10 := Aside0.mk A100
     clear A100
     by_cases c11 : t223 = true
     ·subst c11
      have H1 : ((hinterlandref14_within.f a0_5 0 2000).bind fun t224 => (if t224 = true then ((hinterlandref14_within.f a0_6 (-1) 15).bind fun t225 => (if t225 = true then ((hinterlandref14_within.f a0_7 0 1000).bind fun t226 => (if t226 = true then ((hinterlandref14_within.f a0_8 1 16).bind fun t227 => (if t227 = true then ((hinterlandref14_within.f a0_9 0 10000000).bind fun t228 => (if t228 = true then ((hinterlandref14_within.f a0_10 0 10000000).bind fun t229 => (if t229 = true then ((hinterlandref14_within.f a0_11 1 100).bind fun t230 => (if t230 = true then ((hinterlandref14_within.f a0_12 0 1000).bind fun t231 => (some t231)) else (some false))) else (some false))) else (some false))) else (some false))) else (some false))) else (some false))) else (some false))) = some r := by rw [if_pos rfl] at H; exact H
      clear H
      have H := H1
      clear H1
      replace H := Option.bind_eq_some_iff.mp H
      obtain ⟨t224, A120, H⟩ := H
      replace H : (if t224 = true then ((hinterlandref14_within.f a0_6 (-1) 15).bind fun t225 => (if t225 = true then ((hinterlandref14_within.f a0_7 0 1000).bind fun t226 => (if t226 = true then ((hinterlandref14_within.f a0_8 1 16).bind fun t227 => (if t227 = true then ((hinterlandref14_within.f a0_9 0 10000000).bind fun t228 => (if t228 = true then ((hinterlandref14_within.f a0_10 0 10000000).bind fun t229 => (if t229 = true then ((hinterlandref14_within.f a0_11 1 100).bind fun t230 => (if t230 = true then ((hinterlandref14_within.f a0_12 0 1000).bind fun t231 => (some t231)) else (some false))) else (some false))) else (some false))) else (some false))) else (some false))) else (some false))) else (some false)) = some r := H
      have A12 := Aside0.mk A120
      clear A120
      by_cases c13 : t224 = true
      ·subst c13
       have H1 : ((hinterlandref14_within.f a0_6 (-1) 15).bind fun t225 => (if t225 = true then ((hinterlandref14_within.f a0_7 0 1000).bind fun t226 => (if t226 = true then ((hinterlandref14_within.f a0_8 1 16).bind fun t227 => (if t227 = true then ((hinterlandref14_within.f a0_9 0 10000000).bind fun t228 => (if t228 = true then ((hinterlandref14_within.f a0_10 0 10000000).bind fun t229 => (if t229 = true then ((hinterlandref14_within.f a0_11 1 100).bind fun t230 => (if t230 = true then ((hinterlandref14_within.f a0_12 0 1000).bind fun t231 => (some t231)) else (some false))) else (some false))) else (some false))) else (some false))) else (some false))) else (some false))) = some r := by rw [if_pos rfl] at H; exact H
       clear H
       have H := H1
       clear H1
       replace H := Option.bind_eq_some_iff.mp H
       obtain ⟨t225, A140, H⟩ := H
       replace H : (if t225 = true then ((hinterlandref14_within.f a0_7 0 1000).bind fun t226 => (if t226 = true then ((hinterlandref14_within.f a0_8 1 16).bind fun t227 => (if t227 = true then ((hinterlandref14_within.f a0_9 0 10000000).bind fun t228 => (if t228 = true then ((hinterlandref14_within.f a0_10 0 10000000).bind fun t229 => (if t229 = true then ((hinterlandref14_within.f a0_11 1 100).bind fun t230 => (if t230 = true then ((hinterlandref14_within.f a0_12 0 1000).bind fun t231 => (some t231)) else (some false))) else (some false))) else (some false))) else (some false))) else (some false))) else (some false)) = some r := H
       have A14 := Aside0.mk A140
       clear A140
       by_cases c15 : t225 = true
       ·subst c15
        have H1 : ((hinterlandref14_within.f a0_7 0 1000).bind fun t226 => (if t226 = true then ((hinterlandref14_within.f a0_8 1 16).bind fun t227 => (if t227 = true then ((hinterlandref14_within.f a0_9 0 10000000).bind fun t228 => (if t228 = true then ((hinterlandref14_within.f a0_10 0 10000000).bind fun t229 => (if t229 = true then ((hinterlandref14_within.f a0_11 1 100).bind fun t230 => (if t230 = true then ((hinterlandref14_within.f a0_12 0 1000).bind fun t231 => (some t231)) else (some false))) else (some false))) else (some false))) else (some false))) else (some false))) = some r := by rw [if_pos rfl] at H; exact H
        clear H
        have H := H1
        clear H1
        replace H := Option.bind_eq_some_iff.mp H
        obtain ⟨t226, A160, H⟩ := H
        replace H : (if t226 = true then ((hinterlandref14_within.f a0_8 1 16).bind fun t227 => (if t227 = true then ((hinterlandref14_within.f a0_9 0 10000000).bind fun t228 => (if t228 = true then ((hinterlandref14_within.f a0_10 0 10000000).bind fun t229 => (if t229 = true then ((hinterlandref14_within.f a0_11 1 100).bind fun t230 => (if t230 = true then ((hinterlandref14_within.f a0_12 0 1000).bind fun t231 => (some t231)) else (some false))) else (some false))) else (some false))) else (some false))) else (some false)) = some r := H
        have A16 := Aside0.mk A160
        clear A160
        by_cases c17 : t226 = true
        ·subst c17
         have H1 : ((hinterlandref14_within.f a0_8 1 16).bind fun t227 => (if t227 = true then ((hinterlandref14_within.f a0_9 0 10000000).bind fun t228 => (if t228 = true then ((hinterlandref14_within.f a0_10 0 10000000).bind fun t229 => (if t229 = true then ((hinterlandref14_within.f a0_11 1 100).bind fun t230 => (if t230 = true then ((hinterlandref14_within.f a0_12 0 1000).bind fun t231 => (some t231)) else (some false))) else (some false))) else (some false))) else (some false))) = some r := by rw [if_pos rfl] at H; exact H
         clear H
         have H := H1
         clear H1
         replace H := Option.bind_eq_some_iff.mp H
         obtain ⟨t227, A180, H⟩ := H
         replace H : (if t227 = true then ((hinterlandref14_within.f a0_9 0 10000000).bind fun t228 => (if t228 = true then ((hinterlandref14_within.f a0_10 0 10000000).bind fun t229 => (if t229 = true then ((hinterlandref14_within.f a0_11 1 100).bind fun t230 => (if t230 = true then ((hinterlandref14_within.f a0_12 0 1000).bind fun t231 => (some t231)) else (some false))) else (some false))) else (some false))) else (some false)) = some r := H
         have A18 := Aside0.mk A180
         clear A180
         by_cases c19 : t227 = true
         ·subst c19
          have H1 : ((hinterlandref14_within.f a0_9 0 10000000).bind fun t228 => (if t228 = true then ((hinterlandref14_within.f a0_10 0 10000000).bind fun t229 => (if t229 = true then ((hinterlandref14_within.f a0_11 1 100).bind fun t230 => (if t230 = true then ((hinterlandref14_within.f a0_12 0 1000).bind fun t231 => (some t231)) else (some false))) else (some false))) else (some false))) = some r := by rw [if_pos rfl] at H; exact H
          clear H
          have H := H1
          clear H1
          replace H := Option.bind_eq_some_iff.mp H
          obtain ⟨t228, A200, H⟩ := H
          replace H : (if t228 = true then ((hinterlandref14_within.f a0_10 0 10000000).bind fun t229 => (if t229 = true then ((hinterlandref14_within.f a0_11 1 100).bind fun t230 => (if t230 = true then ((hinterlandref14_within.f a0_12 0 1000).bind fun t231 => (some t231)) else (some false))) else (some false))) else (some false)) = some r := H
          have A20 := Aside0.mk A200
          clear A200
          by_cases c21 : t228 = true
          ·subst c21
           have H1 : ((hinterlandref14_within.f a0_10 0 10000000).bind fun t229 => (if t229 = true then ((hinterlandref14_within.f a0_11 1 100).bind fun t230 => (if t230 = true then ((hinterlandref14_within.f a0_12 0 1000).bind fun t231 => (some t231)) else (some false))) else (some false))) = some r := by rw [if_pos rfl] at H; exact H
           clear H
           have H := H1
           clear H1
           replace H := Option.bind_eq_some_iff.mp H
           obtain ⟨t229, A220, H⟩ := H
           replace H : (if t229 = true then ((hinterlandref14_within.f a0_11 1 100).bind fun t230 => (if t230 = true then ((hinterlandref14_within.f a0_12 0 1000).bind fun t231 => (some t231)) else (some false))) else (some false)) = some r := H
           have A22 := Aside0.mk A220
           clear A220
           by_cases c23 : t229 = true
           ·subst c23
            have H1 : ((hinterlandref14_within.f a0_11 1 100).bind fun t230 => (if t230 = true then ((hinterlandref14_within.f a0_12 0 1000).bind fun t231 => (some t231)) else (some false))) = some r := by rw [if_pos rfl] at H; exact H
            clear H
            have H := H1
            clear H1
            replace H := Option.bind_eq_some_iff.mp H
            obtain ⟨t230, A240, H⟩ := H
            replace H : (if t230 = true then ((hinterlandref14_within.f a0_12 0 1000).bind fun t231 => (some t231)) else (some false)) = some r := H
            have A24 := Aside0.mk A240
            clear A240
            by_cases c25 : t230 = true
            ·subst c25
             have H1 : ((hinterlandref14_within.f a0_12 0 1000).bind fun t231 => (some t231)) = some r := by rw [if_pos rfl] at H; exact H
             clear H
             have H := H1
             clear H1
             replace H := Option.bind_eq_some_iff.mp H
             obtain ⟨t231, A260, H⟩ := H
             replace H : (some t231) = some r := H
             have A26 := Aside0.mk A260
             clear A260
             obtain rfl := Option.some.inj H
             go_enter Try.func38, Try.ntmps38
             go_wp2_with (first | ((with_reducible refine gate_dst (N := 1) rfl ?_); refine box_event ?hg (N := 1) ?hd (cs := #[.string a0_0, .int .i64 a0_1, .int .i64 a0_2, .int .i64 a0_3, .int .i64 a0_4, .int .i64 a0_5, .int .i64 a0_6, .int .i64 a0_7, .int .i64 a0_8, .int .i64 a0_9, .int .i64 a0_10, .int .i64 a0_11, .int .i64 a0_12, .bool a0_13]) (t := 54) ?hr ?_; (case hd => rfl); (case hg => rfl); (case hr => first | (go_simp; done) | (go_simp; rfl)); intro gb218 hg w27 hbox hb; have n0_ := Aside0.mk (below_step (dL_ HB) hb); have n1_ := Aside0.mk (hbox); have n2_ := Aside0.mk ((dS_ hg (dL_ HB) : w.heap.size ≤ gb218)); have n3_ := Aside0.mk ((dS_ hg (dL_ HB) : w.heap.size ≤ gb218)); clear HB; have HB := n0_; have BK218 := n1_; have GW218 := n2_; have GE218 := n3_; clear n0_ n1_ n2_ n3_; clear hb hbox hg; obtain ⟨hcz28_0, hcz28_1, hcz28_2, hcz28_3, hcz28_4, hcz28_5, hcz28_6, hcz28_7, hcz28_8, hcz28_9, hcz28_10, hcz28_11, hcz28_12, hcz28_13, hfz28_0, hfz28_1, hfz28_2, hfz28_3, hfz28_4, hfz28_5, hfz28_6, hfz28_7, hfz28_8, hfz28_9, hfz28_10, hfz28_11, hfz28_12, hfz28_13⟩ := cs14_ BK218.out) | (go_at_call 58; (with_reducible refine (hinterlandref10_Named.calls k a0_0 true _ A2.out).mono ?_); rintro e w' ⟨rfl, ⟨nd, rfl⟩⟩) | (go_at_call 42; (with_reducible refine (hinterlandref14_within.calls a0_1 0 3 true _ A4.out).mono ?_); rintro e w' ⟨rfl, ⟨nd, rfl⟩⟩) | (go_at_call 42; (with_reducible refine (hinterlandref14_within.calls a0_2 0 600 true _ A6.out).mono ?_); rintro e w' ⟨rfl, ⟨nd, rfl⟩⟩) | (go_at_call 42; (with_reducible refine (hinterlandref14_within.calls a0_3 0 20000 true _ A8.out).mono ?_); rintro e w' ⟨rfl, ⟨nd, rfl⟩⟩) | (go_at_call 42; (with_reducible refine (hinterlandref14_within.calls a0_4 1 1000 true _ A10.out).mono ?_); rintro e w' ⟨rfl, ⟨nd, rfl⟩⟩) | (go_at_call 42; (with_reducible refine (hinterlandref14_within.calls a0_5 0 2000 true _ A12.out).mono ?_); rintro e w' ⟨rfl, ⟨nd, rfl⟩⟩) | (go_at_call 42; (with_reducible refine (hinterlandref14_within.calls a0_6 (-1) 15 true _ A14.out).mono ?_); rintro e w' ⟨rfl, ⟨nd, rfl⟩⟩) | (go_at_call 42; (with_reducible refine (hinterlandref14_within.calls a0_7 0 1000 true _ A16.out).mono ?_); rintro e w' ⟨rfl, ⟨nd, rfl⟩⟩) | (go_at_call 42; (with_reducible refine (hinterlandref14_within.calls a0_8 1 16 true _ A18.out).mono ?_); rintro e w' ⟨rfl, ⟨nd, rfl⟩⟩) | (go_at_call 42; (with_reducible refine (hinterlandref14_within.calls a0_9 0 10000000 true _ A20.out).mono ?_); rintro e w' ⟨rfl, ⟨nd, rfl⟩⟩) | (go_at_call 42; (with_reducible refine (hinterlandref14_within.calls a0_10 0 10000000 true _ A22.out).mono ?_); rintro e w' ⟨rfl, ⟨nd, rfl⟩⟩) | (go_at_call 42; (with_reducible refine (hinterlandref14_within.calls a0_11 1 100 true _ A24.out).mono ?_); rintro e w' ⟨rfl, ⟨nd, rfl⟩⟩) | (go_at_call 42; (with_reducible refine (hinterlandref14_within.calls a0_12 0 1000 t231 _ A26.out).mono ?_); rintro e w' ⟨rfl, ⟨nd, rfl⟩⟩))
             go_ret
             exact ⟨tE_, dL1_ HB GE218⟩
            ·replace c25 := Bool.eq_false_iff.mpr c25
             subst c25
             have H1 : (some false) = some r := by rw [if_neg (show ¬ (false = true) by decide)] at H; exact H
             clear H
             have H := H1
             clear H1
             obtain rfl := Option.some.inj H
             go_enter Try.func38, Try.ntmps38
             go_wp2_with (first | ((with_reducible refine gate_dst (N := 1) rfl ?_); refine box_event ?hg (N := 1) ?hd (cs := #[.string a0_0, .int .i64 a0_1, .int .i64 a0_2, .int .i64 a0_3, .int .i64 a0_4, .int .i64 a0_5, .int .i64 a0_6, .int .i64 a0_7, .int .i64 a0_8, .int .i64 a0_9, .int .i64 a0_10, .int .i64 a0_11, .int .i64 a0_12, .bool a0_13]) (t := 54) ?hr ?_; (case hd => rfl); (case hg => rfl); (case hr => first | (go_simp; done) | (go_simp; rfl)); intro gb218 hg w29 hbox hb; have n0_ := Aside0.mk (below_step (dL_ HB) hb); have n1_ := Aside0.mk (hbox); have n2_ := Aside0.mk ((dS_ hg (dL_ HB) : w.heap.size ≤ gb218)); have n3_ := Aside0.mk ((dS_ hg (dL_ HB) : w.heap.size ≤ gb218)); clear HB; have HB := n0_; have BK218 := n1_; have GW218 := n2_; have GE218 := n3_; clear n0_ n1_ n2_ n3_; clear hb hbox hg; obtain ⟨hcz30_0, hcz30_1, hcz30_2, hcz30_3, hcz30_4, hcz30_5, hcz30_6, hcz30_7, hcz30_8, hcz30_9, hcz30_10, hcz30_11, hcz30_12, hcz30_13, hfz30_0, hfz30_1, hfz30_2, hfz30_3, hfz30_4, hfz30_5, hfz30_6, hfz30_7, hfz30_8, hfz30_9, hfz30_10, hfz30_11, hfz30_12, hfz30_13⟩ := cs14_ BK218.out) | (go_at_call 58; (with_reducible refine (hinterlandref10_Named.calls k a0_0 true _ A2.out).mono ?_); rintro e w' ⟨rfl, ⟨nd, rfl⟩⟩) | (go_at_call 42; (with_reducible refine (hinterlandref14_within.calls a0_1 0 3 true _ A4.out).mono ?_); rintro e w' ⟨rfl, ⟨nd, rfl⟩⟩) | (go_at_call 42; (with_reducible refine (hinterlandref14_within.calls a0_2 0 600 true _ A6.out).mono ?_); rintro e w' ⟨rfl, ⟨nd, rfl⟩⟩) | (go_at_call 42; (with_reducible refine (hinterlandref14_within.calls a0_3 0 20000 true _ A8.out).mono ?_); rintro e w' ⟨rfl, ⟨nd, rfl⟩⟩) | (go_at_call 42; (with_reducible refine (hinterlandref14_within.calls a0_4 1 1000 true _ A10.out).mono ?_); rintro e w' ⟨rfl, ⟨nd, rfl⟩⟩) | (go_at_call 42; (with_reducible refine (hinterlandref14_within.calls a0_5 0 2000 true _ A12.out).mono ?_); rintro e w' ⟨rfl, ⟨nd, rfl⟩⟩) | (go_at_call 42; (with_reducible refine (hinterlandref14_within.calls a0_6 (-1) 15 true _ A14.out).mono ?_); rintro e w' ⟨rfl, ⟨nd, rfl⟩⟩) | (go_at_call 42; (with_reducible refine (hinterlandref14_within.calls a0_7 0 1000 true _ A16.out).mono ?_); rintro e w' ⟨rfl, ⟨nd, rfl⟩⟩) | (go_at_call 42; (with_reducible refine (hinterlandref14_within.calls a0_8 1 16 true _ A18.out).mono ?_); rintro e w' ⟨rfl, ⟨nd, rfl⟩⟩) | (go_at_call 42; (with_reducible refine (hinterlandref14_within.calls a0_9 0 10000000 true _ A20.out).mono ?_); rintro e w' ⟨rfl, ⟨nd, rfl⟩⟩) | (go_at_call 42; (with_reducible refine (hinterlandref14_within.calls a0_10 0 10000000 true _ A22.out).mono ?_); rintro e w' ⟨rfl, ⟨nd, rfl⟩⟩) | (go_at_call 42; (with_reducible refine (hinterlandref14_within.calls a0_11 1 100 false _ A24.out).mono ?_); rintro e w' ⟨rfl, ⟨nd, rfl⟩⟩))
             go_ret
             exact ⟨tE_, dL1_ HB GE218⟩
           ·replace c23 := Bool.eq_false_iff.mpr c23
            subst c23
            have H1 : (some false) = some r := by rw [if_neg (show ¬ (false = true) by decide)] at H; exact H
            clear H
            have H := H1
            clear H1
            obtain rfl := Option.some.inj H
            go_enter Try.func38, Try.ntmps38
            go_wp2_with (first | ((with_reducible refine gate_dst (N := 1) rfl ?_); refine box_event ?hg (N := 1) ?hd (cs := #[.string a0_0, .int .i64 a0_1, .int .i64 a0_2, .int .i64 a0_3, .int .i64 a0_4, .int .i64 a0_5, .int .i64 a0_6, .int .i64 a0_7, .int .i64 a0_8, .int .i64 a0_9, .int .i64 a0_10, .int .i64 a0_11, .int .i64 a0_12, .bool a0_13]) (t := 54) ?hr ?_; (case hd => rfl); (case hg => rfl); (case hr => first | (go_simp; done) | (go_simp; rfl)); intro gb218 hg w31 hbox hb; have n0_ := Aside0.mk (below_step (dL_ HB) hb); have n1_ := Aside0.mk (hbox); have n2_ := Aside0.mk ((dS_ hg (dL_ HB) : w.heap.size ≤ gb218)); have n3_ := Aside0.mk ((dS_ hg (dL_ HB) : w.heap.size ≤ gb218)); clear HB; have HB := n0_; have BK218 := n1_; have GW218 := n2_; have GE218 := n3_; clear n0_ n1_ n2_ n3_; clear hb hbox hg; obtain ⟨hcz32_0, hcz32_1, hcz32_2, hcz32_3, hcz32_4, hcz32_5, hcz32_6, hcz32_7, hcz32_8, hcz32_9, hcz32_10, hcz32_11, hcz32_12, hcz32_13, hfz32_0, hfz32_1, hfz32_2, hfz32_3, hfz32_4, hfz32_5, hfz32_6, hfz32_7, hfz32_8, hfz32_9, hfz32_10, hfz32_11, hfz32_12, hfz32_13⟩ := cs14_ BK218.out) | (go_at_call 58; (with_reducible refine (hinterlandref10_Named.calls k a0_0 true _ A2.out).mono ?_); rintro e w' ⟨rfl, ⟨nd, rfl⟩⟩) | (go_at_call 42; (with_reducible refine (hinterlandref14_within.calls a0_1 0 3 true _ A4.out).mono ?_); rintro e w' ⟨rfl, ⟨nd, rfl⟩⟩) | (go_at_call 42; (with_reducible refine (hinterlandref14_within.calls a0_2 0 600 true _ A6.out).mono ?_); rintro e w' ⟨rfl, ⟨nd, rfl⟩⟩) | (go_at_call 42; (with_reducible refine (hinterlandref14_within.calls a0_3 0 20000 true _ A8.out).mono ?_); rintro e w' ⟨rfl, ⟨nd, rfl⟩⟩) | (go_at_call 42; (with_reducible refine (hinterlandref14_within.calls a0_4 1 1000 true _ A10.out).mono ?_); rintro e w' ⟨rfl, ⟨nd, rfl⟩⟩) | (go_at_call 42; (with_reducible refine (hinterlandref14_within.calls a0_5 0 2000 true _ A12.out).mono ?_); rintro e w' ⟨rfl, ⟨nd, rfl⟩⟩) | (go_at_call 42; (with_reducible refine (hinterlandref14_within.calls a0_6 (-1) 15 true _ A14.out).mono ?_); rintro e w' ⟨rfl, ⟨nd, rfl⟩⟩) | (go_at_call 42; (with_reducible refine (hinterlandref14_within.calls a0_7 0 1000 true _ A16.out).mono ?_); rintro e w' ⟨rfl, ⟨nd, rfl⟩⟩) | (go_at_call 42; (with_reducible refine (hinterlandref14_within.calls a0_8 1 16 true _ A18.out).mono ?_); rintro e w' ⟨rfl, ⟨nd, rfl⟩⟩) | (go_at_call 42; (with_reducible refine (hinterlandref14_within.calls a0_9 0 10000000 true _ A20.out).mono ?_); rintro e w' ⟨rfl, ⟨nd, rfl⟩⟩) | (go_at_call 42; (with_reducible refine (hinterlandref14_within.calls a0_10 0 10000000 false _ A22.out).mono ?_); rintro e w' ⟨rfl, ⟨nd, rfl⟩⟩))
            go_ret
            exact ⟨tE_, dL1_ HB GE218⟩
          ·replace c21 := Bool.eq_false_iff.mpr c21
           subst c21
           have H1 : (some false) = some r := by rw [if_neg (show ¬ (false = true) by decide)] at H; exact H
           clear H
           have H := H1
           clear H1
           obtain rfl := Option.some.inj H
           go_enter Try.func38, Try.ntmps38
           go_wp2_with (first | ((with_reducible refine gate_dst (N := 1) rfl ?_); refine box_event ?hg (N := 1) ?hd (cs := #[.string a0_0, .int .i64 a0_1, .int .i64 a0_2, .int .i64 a0_3, .int .i64 a0_4, .int .i64 a0_5, .int .i64 a0_6, .int .i64 a0_7, .int .i64 a0_8, .int .i64 a0_9, .int .i64 a0_10, .int .i64 a0_11, .int .i64 a0_12, .bool a0_13]) (t := 54) ?hr ?_; (case hd => rfl); (case hg => rfl); (case hr => first | (go_simp; done) | (go_simp; rfl)); intro gb218 hg w33 hbox hb; have n0_ := Aside0.mk (below_step (dL_ HB) hb); have n1_ := Aside0.mk (hbox); have n2_ := Aside0.mk ((dS_ hg (dL_ HB) : w.heap.size ≤ gb218)); have n3_ := Aside0.mk ((dS_ hg (dL_ HB) : w.heap.size ≤ gb218)); clear HB; have HB := n0_; have BK218 := n1_; have GW218 := n2_; have GE218 := n3_; clear n0_ n1_ n2_ n3_; clear hb hbox hg; obtain ⟨hcz34_0, hcz34_1, hcz34_2, hcz34_3, hcz34_4, hcz34_5, hcz34_6, hcz34_7, hcz34_8, hcz34_9, hcz34_10, hcz34_11, hcz34_12, hcz34_13, hfz34_0, hfz34_1, hfz34_2, hfz34_3, hfz34_4, hfz34_5, hfz34_6, hfz34_7, hfz34_8, hfz34_9, hfz34_10, hfz34_11, hfz34_12, hfz34_13⟩ := cs14_ BK218.out) | (go_at_call 58; (with_reducible refine (hinterlandref10_Named.calls k a0_0 true _ A2.out).mono ?_); rintro e w' ⟨rfl, ⟨nd, rfl⟩⟩) | (go_at_call 42; (with_reducible refine (hinterlandref14_within.calls a0_1 0 3 true _ A4.out).mono ?_); rintro e w' ⟨rfl, ⟨nd, rfl⟩⟩) | (go_at_call 42; (with_reducible refine (hinterlandref14_within.calls a0_2 0 600 true _ A6.out).mono ?_); rintro e w' ⟨rfl, ⟨nd, rfl⟩⟩) | (go_at_call 42; (with_reducible refine (hinterlandref14_within.calls a0_3 0 20000 true _ A8.out).mono ?_); rintro e w' ⟨rfl, ⟨nd, rfl⟩⟩) | (go_at_call 42; (with_reducible refine (hinterlandref14_within.calls a0_4 1 1000 true _ A10.out).mono ?_); rintro e w' ⟨rfl, ⟨nd, rfl⟩⟩) | (go_at_call 42; (with_reducible refine (hinterlandref14_within.calls a0_5 0 2000 true _ A12.out).mono ?_); rintro e w' ⟨rfl, ⟨nd, rfl⟩⟩) | (go_at_call 42; (with_reducible refine (hinterlandref14_within.calls a0_6 (-1) 15 true _ A14.out).mono ?_); rintro e w' ⟨rfl, ⟨nd, rfl⟩⟩) | (go_at_call 42; (with_reducible refine (hinterlandref14_within.calls a0_7 0 1000 true _ A16.out).mono ?_); rintro e w' ⟨rfl, ⟨nd, rfl⟩⟩) | (go_at_call 42; (with_reducible refine (hinterlandref14_within.calls a0_8 1 16 true _ A18.out).mono ?_); rintro e w' ⟨rfl, ⟨nd, rfl⟩⟩) | (go_at_call 42; (with_reducible refine (hinterlandref14_within.calls a0_9 0 10000000 false _ A20.out).mono ?_); rintro e w' ⟨rfl, ⟨nd, rfl⟩⟩))
           go_ret
           exact ⟨tE_, dL1_ HB GE218⟩
         ·replace c19 := Bool.eq_false_iff.mpr c19
          subst c19
          have H1 : (some false) = some r := by rw [if_neg (show ¬ (false = true) by decide)] at H; exact H
          clear H
          have H := H1
          clear H1
          obtain rfl := Option.some.inj H
          go_enter Try.func38, Try.ntmps38
          go_wp2_with (first | ((with_reducible refine gate_dst (N := 1) rfl ?_); refine box_event ?hg (N := 1) ?hd (cs := #[.string a0_0, .int .i64 a0_1, .int .i64 a0_2, .int .i64 a0_3, .int .i64 a0_4, .int .i64 a0_5, .int .i64 a0_6, .int .i64 a0_7, .int .i64 a0_8, .int .i64 a0_9, .int .i64 a0_10, .int .i64 a0_11, .int .i64 a0_12, .bool a0_13]) (t := 54) ?hr ?_; (case hd => rfl); (case hg => rfl); (case hr => first | (go_simp; done) | (go_simp; rfl)); intro gb218 hg w35 hbox hb; have n0_ := Aside0.mk (below_step (dL_ HB) hb); have n1_ := Aside0.mk (hbox); have n2_ := Aside0.mk ((dS_ hg (dL_ HB) : w.heap.size ≤ gb218)); have n3_ := Aside0.mk ((dS_ hg (dL_ HB) : w.heap.size ≤ gb218)); clear HB; have HB := n0_; have BK218 := n1_; have GW218 := n2_; have GE218 := n3_; clear n0_ n1_ n2_ n3_; clear hb hbox hg; obtain ⟨hcz36_0, hcz36_1, hcz36_2, hcz36_3, hcz36_4, hcz36_5, hcz36_6, hcz36_7, hcz36_8, hcz36_9, hcz36_10, hcz36_11, hcz36_12, hcz36_13, hfz36_0, hfz36_1, hfz36_2, hfz36_3, hfz36_4, hfz36_5, hfz36_6, hfz36_7, hfz36_8, hfz36_9, hfz36_10, hfz36_11, hfz36_12, hfz36_13⟩ := cs14_ BK218.out) | (go_at_call 58; (with_reducible refine (hinterlandref10_Named.calls k a0_0 true _ A2.out).mono ?_); rintro e w' ⟨rfl, ⟨nd, rfl⟩⟩) | (go_at_call 42; (with_reducible refine (hinterlandref14_within.calls a0_1 0 3 true _ A4.out).mono ?_); rintro e w' ⟨rfl, ⟨nd, rfl⟩⟩) | (go_at_call 42; (with_reducible refine (hinterlandref14_within.calls a0_2 0 600 true _ A6.out).mono ?_); rintro e w' ⟨rfl, ⟨nd, rfl⟩⟩) | (go_at_call 42; (with_reducible refine (hinterlandref14_within.calls a0_3 0 20000 true _ A8.out).mono ?_); rintro e w' ⟨rfl, ⟨nd, rfl⟩⟩) | (go_at_call 42; (with_reducible refine (hinterlandref14_within.calls a0_4 1 1000 true _ A10.out).mono ?_); rintro e w' ⟨rfl, ⟨nd, rfl⟩⟩) | (go_at_call 42; (with_reducible refine (hinterlandref14_within.calls a0_5 0 2000 true _ A12.out).mono ?_); rintro e w' ⟨rfl, ⟨nd, rfl⟩⟩) | (go_at_call 42; (with_reducible refine (hinterlandref14_within.calls a0_6 (-1) 15 true _ A14.out).mono ?_); rintro e w' ⟨rfl, ⟨nd, rfl⟩⟩) | (go_at_call 42; (with_reducible refine (hinterlandref14_within.calls a0_7 0 1000 true _ A16.out).mono ?_); rintro e w' ⟨rfl, ⟨nd, rfl⟩⟩) | (go_at_call 42; (with_reducible refine (hinterlandref14_within.calls a0_8 1 16 false _ A18.out).mono ?_); rintro e w' ⟨rfl, ⟨nd, rfl⟩⟩))
          go_ret
          exact ⟨tE_, dL1_ HB GE218⟩
        ·replace c17 := Bool.eq_false_iff.mpr c17
         subst c17
         have H1 : (some false) = some r := by rw [if_neg (show ¬ (false = true) by decide)] at H; exact H
         clear H
         have H := H1
         clear H1
         obtain rfl := Option.some.inj H
         go_enter Try.func38, Try.ntmps38
         go_wp2_with (first | ((with_reducible refine gate_dst (N := 1) rfl ?_); refine box_event ?hg (N := 1) ?hd (cs := #[.string a0_0, .int .i64 a0_1, .int .i64 a0_2, .int .i64 a0_3, .int .i64 a0_4, .int .i64 a0_5, .int .i64 a0_6, .int .i64 a0_7, .int .i64 a0_8, .int .i64 a0_9, .int .i64 a0_10, .int .i64 a0_11, .int .i64 a0_12, .bool a0_13]) (t := 54) ?hr ?_; (case hd => rfl); (case hg => rfl); (case hr => first | (go_simp; done) | (go_simp; rfl)); intro gb218 hg w37 hbox hb; have n0_ := Aside0.mk (below_step (dL_ HB) hb); have n1_ := Aside0.mk (hbox); have n2_ := Aside0.mk ((dS_ hg (dL_ HB) : w.heap.size ≤ gb218)); have n3_ := Aside0.mk ((dS_ hg (dL_ HB) : w.heap.size ≤ gb218)); clear HB; have HB := n0_; have BK218 := n1_; have GW218 := n2_; have GE218 := n3_; clear n0_ n1_ n2_ n3_; clear hb hbox hg; obtain ⟨hcz38_0, hcz38_1, hcz38_2, hcz38_3, hcz38_4, hcz38_5, hcz38_6, hcz38_7, hcz38_8, hcz38_9, hcz38_10, hcz38_11, hcz38_12, hcz38_13, hfz38_0, hfz38_1, hfz38_2, hfz38_3, hfz38_4, hfz38_5, hfz38_6, hfz38_7, hfz38_8, hfz38_9, hfz38_10, hfz38_11, hfz38_12, hfz38_13⟩ := cs14_ BK218.out) | (go_at_call 58; (with_reducible refine (hinterlandref10_Named.calls k a0_0 true _ A2.out).mono ?_); rintro e w' ⟨rfl, ⟨nd, rfl⟩⟩) | (go_at_call 42; (with_reducible refine (hinterlandref14_within.calls a0_1 0 3 true _ A4.out).mono ?_); rintro e w' ⟨rfl, ⟨nd, rfl⟩⟩) | (go_at_call 42; (with_reducible refine (hinterlandref14_within.calls a0_2 0 600 true _ A6.out).mono ?_); rintro e w' ⟨rfl, ⟨nd, rfl⟩⟩) | (go_at_call 42; (with_reducible refine (hinterlandref14_within.calls a0_3 0 20000 true _ A8.out).mono ?_); rintro e w' ⟨rfl, ⟨nd, rfl⟩⟩) | (go_at_call 42; (with_reducible refine (hinterlandref14_within.calls a0_4 1 1000 true _ A10.out).mono ?_); rintro e w' ⟨rfl, ⟨nd, rfl⟩⟩) | (go_at_call 42; (with_reducible refine (hinterlandref14_within.calls a0_5 0 2000 true _ A12.out).mono ?_); rintro e w' ⟨rfl, ⟨nd, rfl⟩⟩) | (go_at_call 42; (with_reducible refine (hinterlandref14_within.calls a0_6 (-1) 15 true _ A14.out).mono ?_); rintro e w' ⟨rfl, ⟨nd, rfl⟩⟩) | (go_at_call 42; (with_reducible refine (hinterlandref14_within.calls a0_7 0 1000 false _ A16.out).mono ?_); rintro e w' ⟨rfl, ⟨nd, rfl⟩⟩))
         go_ret
         exact ⟨tE_, dL1_ HB GE218⟩
       ·replace c15 := Bool.eq_false_iff.mpr c15
        subst c15
        have H1 : (some false) = some r := by rw [if_neg (show ¬ (false = true) by decide)] at H; exact H
        clear H
        have H := H1
        clear H1
        obtain rfl := Option.some.inj H
        go_enter Try.func38, Try.ntmps38
        go_wp2_with (first | ((with_reducible refine gate_dst (N := 1) rfl ?_); refine box_event ?hg (N := 1) ?hd (cs := #[.string a0_0, .int .i64 a0_1, .int .i64 a0_2, .int .i64 a0_3, .int .i64 a0_4, .int .i64 a0_5, .int .i64 a0_6, .int .i64 a0_7, .int .i64 a0_8, .int .i64 a0_9, .int .i64 a0_10, .int .i64 a0_11, .int .i64 a0_12, .bool a0_13]) (t := 54) ?hr ?_; (case hd => rfl); (case hg => rfl); (case hr => first | (go_simp; done) | (go_simp; rfl)); intro gb218 hg w39 hbox hb; have n0_ := Aside0.mk (below_step (dL_ HB) hb); have n1_ := Aside0.mk (hbox); have n2_ := Aside0.mk ((dS_ hg (dL_ HB) : w.heap.size ≤ gb218)); have n3_ := Aside0.mk ((dS_ hg (dL_ HB) : w.heap.size ≤ gb218)); clear HB; have HB := n0_; have BK218 := n1_; have GW218 := n2_; have GE218 := n3_; clear n0_ n1_ n2_ n3_; clear hb hbox hg; obtain ⟨hcz40_0, hcz40_1, hcz40_2, hcz40_3, hcz40_4, hcz40_5, hcz40_6, hcz40_7, hcz40_8, hcz40_9, hcz40_10, hcz40_11, hcz40_12, hcz40_13, hfz40_0, hfz40_1, hfz40_2, hfz40_3, hfz40_4, hfz40_5, hfz40_6, hfz40_7, hfz40_8, hfz40_9, hfz40_10, hfz40_11, hfz40_12, hfz40_13⟩ := cs14_ BK218.out) | (go_at_call 58; (with_reducible refine (hinterlandref10_Named.calls k a0_0 true _ A2.out).mono ?_); rintro e w' ⟨rfl, ⟨nd, rfl⟩⟩) | (go_at_call 42; (with_reducible refine (hinterlandref14_within.calls a0_1 0 3 true _ A4.out).mono ?_); rintro e w' ⟨rfl, ⟨nd, rfl⟩⟩) | (go_at_call 42; (with_reducible refine (hinterlandref14_within.calls a0_2 0 600 true _ A6.out).mono ?_); rintro e w' ⟨rfl, ⟨nd, rfl⟩⟩) | (go_at_call 42; (with_reducible refine (hinterlandref14_within.calls a0_3 0 20000 true _ A8.out).mono ?_); rintro e w' ⟨rfl, ⟨nd, rfl⟩⟩) | (go_at_call 42; (with_reducible refine (hinterlandref14_within.calls a0_4 1 1000 true _ A10.out).mono ?_); rintro e w' ⟨rfl, ⟨nd, rfl⟩⟩) | (go_at_call 42; (with_reducible refine (hinterlandref14_within.calls a0_5 0 2000 true _ A12.out).mono ?_); rintro e w' ⟨rfl, ⟨nd, rfl⟩⟩) | (go_at_call 42; (with_reducible refine (hinterlandref14_within.calls a0_6 (-1) 15 false _ A14.out).mono ?_); rintro e w' ⟨rfl, ⟨nd, rfl⟩⟩))
        go_ret
        exact ⟨tE_, dL1_ HB GE218⟩
      ·replace c13 := Bool.eq_false_iff.mpr c13
       subst c13
       have H1 : (some false) = some r := by rw [if_neg (show ¬ (false = true) by decide)] at H; exact H
       clear H
       have H := H1
       clear H1
       obtain rfl := Option.some.inj H
       go_enter Try.func38, Try.ntmps38
       go_wp2_with (first | ((with_reducible refine gate_dst (N := 1) rfl ?_); refine box_event ?hg (N := 1) ?hd (cs := #[.string a0_0, .int .i64 a0_1, .int .i64 a0_2, .int .i64 a0_3, .int .i64 a0_4, .int .i64 a0_5, .int .i64 a0_6, .int .i64 a0_7, .int .i64 a0_8, .int .i64 a0_9, .int .i64 a0_10, .int .i64 a0_11, .int .i64 a0_12, .bool a0_13]) (t := 54) ?hr ?_; (case hd => rfl); (case hg => rfl); (case hr => first | (go_simp; done) | (go_simp; rfl)); intro gb218 hg w41 hbox hb; have n0_ := Aside0.mk (below_step (dL_ HB) hb); have n1_ := Aside0.mk (hbox); have n2_ := Aside0.mk ((dS_ hg (dL_ HB) : w.heap.size ≤ gb218)); have n3_ := Aside0.mk ((dS_ hg (dL_ HB) : w.heap.size ≤ gb218)); clear HB; have HB := n0_; have BK218 := n1_; have GW218 := n2_; have GE218 := n3_; clear n0_ n1_ n2_ n3_; clear hb hbox hg; obtain ⟨hcz42_0, hcz42_1, hcz42_2, hcz42_3, hcz42_4, hcz42_5, hcz42_6, hcz42_7, hcz42_8, hcz42_9, hcz42_10, hcz42_11, hcz42_12, hcz42_13, hfz42_0, hfz42_1, hfz42_2, hfz42_3, hfz42_4, hfz42_5, hfz42_6, hfz42_7, hfz42_8, hfz42_9, hfz42_10, hfz42_11, hfz42_12, hfz42_13⟩ := cs14_ BK218.out) | (go_at_call 58; (with_reducible refine (hinterlandref10_Named.calls k a0_0 true _ A2.out).mono ?_); rintro e w' ⟨rfl, ⟨nd, rfl⟩⟩) | (go_at_call 42; (with_reducible refine (hinterlandref14_within.calls a0_1 0 3 true _ A4.out).mono ?_); rintro e w' ⟨rfl, ⟨nd, rfl⟩⟩) | (go_at_call 42; (with_reducible refine (hinterlandref14_within.calls a0_2 0 600 true _ A6.out).mono ?_); rintro e w' ⟨rfl, ⟨nd, rfl⟩⟩) | (go_at_call 42; (with_reducible refine (hinterlandref14_within.calls a0_3 0 20000 true _ A8.out).mono ?_); rintro e w' ⟨rfl, ⟨nd, rfl⟩⟩) | (go_at_call 42; (with_reducible refine (hinterlandref14_within.calls a0_4 1 1000 true _ A10.out).mono ?_); rintro e w' ⟨rfl, ⟨nd, rfl⟩⟩) | (go_at_call 42; (with_reducible refine (hinterlandref14_within.calls a0_5 0 2000 false _ A12.out).mono ?_); rintro e w' ⟨rfl, ⟨nd, rfl⟩⟩))
       go_ret
       exact ⟨tE_, dL1_ HB GE218⟩
     ·replace c11 := Bool.eq_false_iff.mpr c11
      subst c11
      have H1 : (some false) = some r := by rw [if_neg (show ¬ (false = true) by decide)] at H; exact H
      clear H
      have H := H1
      clear H1
      obtain rfl := Option.some.inj H
      go_enter Try.func38, Try.ntmps38
      go_wp2_with (first | ((with_reducible refine gate_dst (N := 1) rfl ?_); refine box_event ?hg (N := 1) ?hd (cs := #[.string a0_0, .int .i64 a0_1, .int .i64 a0_2, .int .i64 a0_3, .int .i64 a0_4, .int .i64 a0_5, .int .i64 a0_6, .int .i64 a0_7, .int .i64 a0_8, .int .i64 a0_9, .int .i64 a0_10, .int .i64 a0_11, .int .i64 a0_12, .bool a0_13]) (t := 54) ?hr ?_; (case hd => rfl); (case hg => rfl); (case hr => first | (go_simp; done) | (go_simp; rfl)); intro gb218 hg w43 hbox hb; have n0_ := Aside0.mk (below_step (dL_ HB) hb); have n1_ := Aside0.mk (hbox); have n2_ := Aside0.mk ((dS_ hg (dL_ HB) : w.heap.size ≤ gb218)); have n3_ := Aside0.mk ((dS_ hg (dL_ HB) : w.heap.size ≤ gb218)); clear HB; have HB := n0_; have BK218 := n1_; have GW218 := n2_; have GE218 := n3_; clear n0_ n1_ n2_ n3_; clear hb hbox hg; obtain ⟨hcz44_0, hcz44_1, hcz44_2, hcz44_3, hcz44_4, hcz44_5, hcz44_6, hcz44_7, hcz44_8, hcz44_9, hcz44_10, hcz44_11, hcz44_12, hcz44_13, hfz44_0, hfz44_1, hfz44_2, hfz44_3, hfz44_4, hfz44_5, hfz44_6, hfz44_7, hfz44_8, hfz44_9, hfz44_10, hfz44_11, hfz44_12, hfz44_13⟩ := cs14_ BK218.out) | (go_at_call 58; (with_reducible refine (hinterlandref10_Named.calls k a0_0 true _ A2.out).mono ?_); rintro e w' ⟨rfl, ⟨nd, rfl⟩⟩) | (go_at_call 42; (with_reducible refine (hinterlandref14_within.calls a0_1 0 3 true _ A4.out).mono ?_); rintro e w' ⟨rfl, ⟨nd, rfl⟩⟩) | (go_at_call 42; (with_reducible refine (hinterlandref14_within.calls a0_2 0 600 true _ A6.out).mono ?_); rintro e w' ⟨rfl, ⟨nd, rfl⟩⟩) | (go_at_call 42; (with_reducible refine (hinterlandref14_within.calls a0_3 0 20000 true _ A8.out).mono ?_); rintro e w' ⟨rfl, ⟨nd, rfl⟩⟩) | (go_at_call 42; (with_reducible refine (hinterlandref14_within.calls a0_4 1 1000 false _ A10.out).mono ?_); rintro e w' ⟨rfl, ⟨nd, rfl⟩⟩))
      go_ret
      exact ⟨tE_, dL1_ HB GE218⟩
    ·replace c9 := Bool.eq_false_iff.mpr c9
     subst c9
     have H1 : (some false) = some r := by rw [if_neg (show ¬ (false = true) by decide)] at H; exact H
     clear H
     have H := H1
     clear H1
     obtain rfl := Option.some.inj H
     go_enter Try.func38, Try.ntmps38
     go_wp2_with (first | ((with_reducible refine gate_dst (N := 1) rfl ?_); refine box_event ?hg (N := 1) ?hd (cs := #[.string a0_0, .int .i64 a0_1, .int .i64 a0_2, .int .i64 a0_3, .int .i64 a0_4, .int .i64 a0_5, .int .i64 a0_6, .int .i64 a0_7, .int .i64 a0_8, .int .i64 a0_9, .int .i64 a0_10, .int .i64 a0_11, .int .i64 a0_12, .bool a0_13]) (t := 54) ?hr ?_; (case hd => rfl); (case hg => rfl); (case hr => first | (go_simp; done) | (go_simp; rfl)); intro gb218 hg w45 hbox hb; have n0_ := Aside0.mk (below_step (dL_ HB) hb); have n1_ := Aside0.mk (hbox); have n2_ := Aside0.mk ((dS_ hg (dL_ HB) : w.heap.size ≤ gb218)); have n3_ := Aside0.mk ((dS_ hg (dL_ HB) : w.heap.size ≤ gb218)); clear HB; have HB := n0_; have BK218 := n1_; have GW218 := n2_; have GE218 := n3_; clear n0_ n1_ n2_ n3_; clear hb hbox hg; obtain ⟨hcz46_0, hcz46_1, hcz46_2, hcz46_3, hcz46_4, hcz46_5, hcz46_6, hcz46_7, hcz46_8, hcz46_9, hcz46_10, hcz46_11, hcz46_12, hcz46_13, hfz46_0, hfz46_1, hfz46_2, hfz46_3, hfz46_4, hfz46_5, hfz46_6, hfz46_7, hfz46_8, hfz46_9, hfz46_10, hfz46_11, hfz46_12, hfz46_13⟩ := cs14_ BK218.out) | (go_at_call 58; (with_reducible refine (hinterlandref10_Named.calls k a0_0 true _ A2.out).mono ?_); rintro e w' ⟨rfl, ⟨nd, rfl⟩⟩) | (go_at_call 42; (with_reducible refine (hinterlandref14_within.calls a0_1 0 3 true _ A4.out).mono ?_); rintro e w' ⟨rfl, ⟨nd, rfl⟩⟩) | (go_at_call 42; (with_reducible refine (hinterlandref14_within.calls a0_2 0 600 true _ A6.out).mono ?_); rintro e w' ⟨rfl, ⟨nd, rfl⟩⟩) | (go_at_call 42; (with_reducible refine (hinterlandref14_within.calls a0_3 0 20000 false _ A8.out).mono ?_); rintro e w' ⟨rfl, ⟨nd, rfl⟩⟩))
     go_ret
     exact ⟨tE_, dL1_ HB GE218⟩
   ·replace c7 := Bool.eq_false_iff.mpr c7
    subst c7
    have H1 : (some false) = some r := by rw [if_neg (show ¬ (false = true) by decide)] at H; exact H
    clear H
    have H := H1
    clear H1
    obtain rfl := Option.some.inj H
    go_enter Try.func38, Try.ntmps38
    go_wp2_with (first | ((with_reducible refine gate_dst (N := 1) rfl ?_); refine box_event ?hg (N := 1) ?hd (cs := #[.string a0_0, .int .i64 a0_1, .int .i64 a0_2, .int .i64 a0_3, .int .i64 a0_4, .int .i64 a0_5, .int .i64 a0_6, .int .i64 a0_7, .int .i64 a0_8, .int .i64 a0_9, .int .i64 a0_10, .int .i64 a0_11, .int .i64 a0_12, .bool a0_13]) (t := 54) ?hr ?_; (case hd => rfl); (case hg => rfl); (case hr => first | (go_simp; done) | (go_simp; rfl)); intro gb218 hg w47 hbox hb; have n0_ := Aside0.mk (below_step (dL_ HB) hb); have n1_ := Aside0.mk (hbox); have n2_ := Aside0.mk ((dS_ hg (dL_ HB) : w.heap.size ≤ gb218)); have n3_ := Aside0.mk ((dS_ hg (dL_ HB) : w.heap.size ≤ gb218)); clear HB; have HB := n0_; have BK218 := n1_; have GW218 := n2_; have GE218 := n3_; clear n0_ n1_ n2_ n3_; clear hb hbox hg; obtain ⟨hcz48_0, hcz48_1, hcz48_2, hcz48_3, hcz48_4, hcz48_5, hcz48_6, hcz48_7, hcz48_8, hcz48_9, hcz48_10, hcz48_11, hcz48_12, hcz48_13, hfz48_0, hfz48_1, hfz48_2, hfz48_3, hfz48_4, hfz48_5, hfz48_6, hfz48_7, hfz48_8, hfz48_9, hfz48_10, hfz48_11, hfz48_12, hfz48_13⟩ := cs14_ BK218.out) | (go_at_call 58; (with_reducible refine (hinterlandref10_Named.calls k a0_0 true _ A2.out).mono ?_); rintro e w' ⟨rfl, ⟨nd, rfl⟩⟩) | (go_at_call 42; (with_reducible refine (hinterlandref14_within.calls a0_1 0 3 true _ A4.out).mono ?_); rintro e w' ⟨rfl, ⟨nd, rfl⟩⟩) | (go_at_call 42; (with_reducible refine (hinterlandref14_within.calls a0_2 0 600 false _ A6.out).mono ?_); rintro e w' ⟨rfl, ⟨nd, rfl⟩⟩))
    go_ret
    exact ⟨tE_, dL1_ HB GE218⟩
  ·replace c5 := Bool.eq_false_iff.mpr c5
   subst c5
   have H1 : (some false) = some r := by rw [if_neg (show ¬ (false = true) by decide)] at H; exact H
   clear H
   have H := H1
   clear H1
   obtain rfl := Option.some.inj H
   go_enter Try.func38, Try.ntmps38
   go_wp2_with (first | ((with_reducible refine gate_dst (N := 1) rfl ?_); refine box_event ?hg (N := 1) ?hd (cs := #[.string a0_0, .int .i64 a0_1, .int .i64 a0_2, .int .i64 a0_3, .int .i64 a0_4, .int .i64 a0_5, .int .i64 a0_6, .int .i64 a0_7, .int .i64 a0_8, .int .i64 a0_9, .int .i64 a0_10, .int .i64 a0_11, .int .i64 a0_12, .bool a0_13]) (t := 54) ?hr ?_; (case hd => rfl); (case hg => rfl); (case hr => first | (go_simp; done) | (go_simp; rfl)); intro gb218 hg w49 hbox hb; have n0_ := Aside0.mk (below_step (dL_ HB) hb); have n1_ := Aside0.mk (hbox); have n2_ := Aside0.mk ((dS_ hg (dL_ HB) : w.heap.size ≤ gb218)); have n3_ := Aside0.mk ((dS_ hg (dL_ HB) : w.heap.size ≤ gb218)); clear HB; have HB := n0_; have BK218 := n1_; have GW218 := n2_; have GE218 := n3_; clear n0_ n1_ n2_ n3_; clear hb hbox hg; obtain ⟨hcz50_0, hcz50_1, hcz50_2, hcz50_3, hcz50_4, hcz50_5, hcz50_6, hcz50_7, hcz50_8, hcz50_9, hcz50_10, hcz50_11, hcz50_12, hcz50_13, hfz50_0, hfz50_1, hfz50_2, hfz50_3, hfz50_4, hfz50_5, hfz50_6, hfz50_7, hfz50_8, hfz50_9, hfz50_10, hfz50_11, hfz50_12, hfz50_13⟩ := cs14_ BK218.out) | (go_at_call 58; (with_reducible refine (hinterlandref10_Named.calls k a0_0 true _ A2.out).mono ?_); rintro e w' ⟨rfl, ⟨nd, rfl⟩⟩) | (go_at_call 42; (with_reducible refine (hinterlandref14_within.calls a0_1 0 3 false _ A4.out).mono ?_); rintro e w' ⟨rfl, ⟨nd, rfl⟩⟩))
   go_ret
   exact ⟨tE_, dL1_ HB GE218⟩
 ·replace c3 := Bool.eq_false_iff.mpr c3
  subst c3
  have H1 : (some false) = some r := by rw [if_neg (show ¬ (false = true) by decide)] at H; exact H
  clear H
  have H := H1
  clear H1
  obtain rfl := Option.some.inj H
  go_enter Try.func38, Try.ntmps38
  go_wp2_with (first | ((with_reducible refine gate_dst (N := 1) rfl ?_); refine box_event ?hg (N := 1) ?hd (cs := #[.string a0_0, .int .i64 a0_1, .int .i64 a0_2, .int .i64 a0_3, .int .i64 a0_4, .int .i64 a0_5, .int .i64 a0_6, .int .i64 a0_7, .int .i64 a0_8, .int .i64 a0_9, .int .i64 a0_10, .int .i64 a0_11, .int .i64 a0_12, .bool a0_13]) (t := 54) ?hr ?_; (case hd => rfl); (case hg => rfl); (case hr => first | (go_simp; done) | (go_simp; rfl)); intro gb218 hg w51 hbox hb; have n0_ := Aside0.mk (below_step (dL_ HB) hb); have n1_ := Aside0.mk (hbox); have n2_ := Aside0.mk ((dS_ hg (dL_ HB) : w.heap.size ≤ gb218)); have n3_ := Aside0.mk ((dS_ hg (dL_ HB) : w.heap.size ≤ gb218)); clear HB; have HB := n0_; have BK218 := n1_; have GW218 := n2_; have GE218 := n3_; clear n0_ n1_ n2_ n3_; clear hb hbox hg; obtain ⟨hcz52_0, hcz52_1, hcz52_2, hcz52_3, hcz52_4, hcz52_5, hcz52_6, hcz52_7, hcz52_8, hcz52_9, hcz52_10, hcz52_11, hcz52_12, hcz52_13, hfz52_0, hfz52_1, hfz52_2, hfz52_3, hfz52_4, hfz52_5, hfz52_6, hfz52_7, hfz52_8, hfz52_9, hfz52_10, hfz52_11, hfz52_12, hfz52_13⟩ := cs14_ BK218.out) | (go_at_call 58; (with_reducible refine (hinterlandref10_Named.calls k a0_0 false _ A2.out).mono ?_); rintro e w' ⟨rfl, ⟨nd, rfl⟩⟩))
  go_ret
  exact ⟨tE_, dL1_ HB GE218⟩

end Go.Proofs.Ytgnahbjpockdmaa.Q
namespace Go.Proofs.Ytgnahbjpockdmaa.Q
open Go.RowKit Go.Proofs.YtgnahbjpockdmaaPrs Go.Proofs.YtgnahbjpockdmaaOwn Go.Proofs.YtgnahbjpockdmaaW.PrintWords Go.Proofs.YtgnahbjpockdmaaW.PrintLast Go.Proofs.YtgnahbjpockdmaaW.PrintMore
attribute [local go_sem] max2_int min2_int max_two min_two max_three min_three max_four min_four   -- for this text's walks alone
set_option linter.unusedVariables false
set_option linter.unusedSimpArgs false

/-! ### cargo_within: function 65 -/
def cargo_within.f (a0 : Int) (a1 : Int) : Option (Bool) := if a0 ≥ 0 then (some (decide (a0 ≤ a1))) else (some false)
set_option maxHeartbeats 8000000 in
set_option maxRecDepth 100000 in
theorem cargo_within.calls (a0 : Int) (a1 : Int) (r : Bool) (w : World) (h : cargo_within.f a0 a1 = some r) :
    Calls Try.prog 65 #[.int .i64 a0, .int .i64 a1] w fun e w' => e = .returned (.bool r) ∧ Drawn0 w w' := by
 have H : (if a0 ≥ 0 then (some (decide (a0 ≤ a1))) else (some false)) = some r := h
 clear h
 by_cases c3 : a0 ≥ 0
 ·rw [if_pos c3] at H
  have c3b0 : decide (0 ≤ a0) = true := decide_eq_true c3
  clear c3
  obtain rfl := Option.some.inj H
  go_enter Try.func65, Try.ntmps65
  go_wp2
  go_ret
  exact ⟨tS_, by repeat (first | exact Drawn0.refl _ | apply Drawn0.step)⟩
 ·rw [if_neg c3] at H
  have c3b0 : decide (0 ≤ a0) = false := decide_eq_false c3
  clear c3
  obtain rfl := Option.some.inj H
  go_enter Try.func65, Try.ntmps65
  go_wp2
  go_ret
  exact ⟨tS_, by repeat (first | exact Drawn0.refl _ | apply Drawn0.step)⟩

end Go.Proofs.Ytgnahbjpockdmaa.Q
