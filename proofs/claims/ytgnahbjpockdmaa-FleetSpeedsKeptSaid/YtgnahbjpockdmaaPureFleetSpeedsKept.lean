/- What is proved: a speed is never below 0, never grows above the cap, falls by ten at most to a cap that is less, and more load never makes a vehicle faster. No condition. -/
import Derived.Test.YtgnahbjpockdmaaSpe
import Derived.Test.YtgnahbjpockdmaaKnown
import Derived.Test.YtgnahbjpockdmaaQ25
namespace Go.Proofs.Ytgnahbjpockdmaa.Pure
open Go.RowKit Go.Proofs.YtgnahbjpockdmaaOwn Go.Proofs.Ytgnahbjpockdmaa.Q Go.Proofs.Ytgnahbjpockdmaa.Mod Go.Proofs.Ytgnahbjpockdmaa.Spe Go.Proofs.Ytgnahbjpockdmaa.Known Go.Proofs.YtgnahbjpockdmaaW.PrintWords Go.Proofs.YtgnahbjpockdmaaW.PrintLast Go.Proofs.YtgnahbjpockdmaaW.PrintMore
set_option linter.unusedVariables false
set_option linter.unusedSimpArgs false

theorem div_cross {x y x' y' : Int} (hy : 0 < y) (hy' : 0 < y') (h : x * y' ≤ x' * y) : x / y ≤ x' / y' := by
  apply Int.le_ediv_of_mul_le hy'
  have h1 : x / y * y ≤ x := Int.ediv_mul_le x (by omega)
  have h2 : x / y * y * y' ≤ x * y' := Int.mul_le_mul_of_nonneg_right h1 (by omega)
  have h3 : (x / y * y') * y ≤ x' * y := by
    calc (x / y * y') * y = x / y * y * y' := by rw [Int.mul_assoc, Int.mul_comm y' y, ← Int.mul_assoc]
      _ ≤ x * y' := h2
      _ ≤ x' * y := h
  exact Int.le_of_mul_le_mul_right h3 hy
theorem m4 (x y : Int) : x * 36 * (y * 10000) = x * y * 360000 := by
  rw [Int.mul_assoc, show (36 : Int) * (y * 10000) = y * 360000 by omega, ← Int.mul_assoc]
/-- The numbers of a train that is driven, within their bounds. -/
structure B (f p w pu ld sp lim up : Int) : Prop where
  f : 0 ≤ f ∧ f ≤ 1000000000
  p : 0 ≤ p ∧ p ≤ 1000000000
  w : 1 ≤ w ∧ w ≤ 1000000000
  pu : 0 ≤ pu ∧ pu ≤ 1000000000
  ld : 0 ≤ ld ∧ ld ≤ 1000000
  sp : 0 ≤ sp ∧ sp ≤ 600
  lim : 0 ≤ lim ∧ lim ≤ 600
  up : -1 ≤ up ∧ up ≤ 1
theorem okS_B {f p w pu o c n ld sp lim up : Int} (h : okS f p w pu o c n ld sp lim up = true) : B f p w pu ld sp lim up := by
  unfold okS at h
  simp only [Bool.and_eq_true, inB_true] at h
  exact ⟨h.1.1.1.1.1.1.1, h.1.1.1.1.1.1.2, h.1.1.1.1.1.2, h.1.1.1.1.2, h.2.1.1, h.2.1.2.1, h.2.1.2.2, h.2.2⟩
theorem pull_in {p pu sp : Int} (hp : 0 ≤ p ∧ p ≤ 1000000000) (hu : 0 ≤ pu ∧ pu ≤ 1000000000) (hs : 0 ≤ sp ∧ sp ≤ 600) : 0 ≤ pull p pu sp ∧ pull p pu sp ≤ 3600000000000 := by
  have hm : 1 ≤ mx sp 1 ∧ mx sp 1 ≤ 600 := by unfold mx; split <;> omega
  have h1 : wrap64 (3600 * p) = 3600 * p := w64_in (by omega) (by omega)
  have h2 : Int.tdiv (3600 * p) (mx sp 1) = 3600 * p / mx sp 1 := Int.tdiv_eq_ediv_of_nonneg (by omega)
  have h3 : 0 ≤ 3600 * p / mx sp 1 := Int.ediv_nonneg (by omega) (by omega)
  have h4 : 3600 * p / mx sp 1 ≤ 3600 * p := Int.ediv_le_self _ (by omega)
  unfold pull
  rw [h1, h2, w64_in (x := 1000 * pu) (by omega) (by omega), w64_in (x := 3600 * p / mx sp 1) (by omega) (by omega)]
  unfold mn
  split <;> omega
theorem drag_is {w ld sp up : Int} (hw : 1 ≤ w ∧ w ≤ 1000000000) (hl : 0 ≤ ld ∧ ld ≤ 1000000) (hs : 0 ≤ sp ∧ sp ≤ 600) (hu : -1 ≤ up ∧ up ≤ 1) : drag w ld sp up = (w + ld) * (20 + sp + 300 * up) ∧ -280280000000 ≤ (w + ld) * (20 + sp + 300 * up) ∧ (w + ld) * (20 + sp + 300 * up) ≤ 921840000000 := by
  have hF : -280 ≤ 20 + sp + 300 * up ∧ 20 + sp + 300 * up ≤ 920 := by omega
  have a1 : (w + ld) * (20 + sp + 300 * up) ≤ (w + ld) * 920 := Int.mul_le_mul_of_nonneg_left hF.2 (by omega)
  have a2 : (w + ld) * (-280) ≤ (w + ld) * (20 + sp + 300 * up) := Int.mul_le_mul_of_nonneg_left hF.1 (by omega)
  refine ⟨?_, by omega, by omega⟩
  unfold drag
  rw [w64_in (x := w + ld) (by omega) (by omega), w64_in (x := 20 + sp) (by omega) (by omega), w64_in (x := 300 * up) (by omega) (by omega), w64_in (x := 20 + sp + 300 * up) (by omega) (by omega), w64_in (by omega) (by omega)]
/-- The speed, without a wrap. -/
theorem core_is {f p w pu ld sp lim up : Int} (b : B f p w pu ld sp lim up) (D : Int) (hD : D = pull p pu sp - (w + ld) * (20 + sp + 300 * up)) : core f p w pu ld sp lim up = (if sp > mn f lim then mx (mn f lim) (sp - 10) else if D > 0 then mn (sp + mx (D * 36 / ((w + ld) * 10000)) 1) (mn f lim) else if D < 0 then mx (sp - (-D * 36) / ((w + ld) * 10000)) 0 else sp, 0) := by
  have hp := pull_in b.p b.pu b.sp
  obtain ⟨d1, d2, d3⟩ := drag_is b.w b.ld b.sp b.up
  have hb := b.sp
  have hw := b.w
  have hl := b.ld
  have hdf : diff p w pu ld sp up = D := by
    unfold diff; rw [d1, hD]; exact w64_in (by omega) (by omega)
  have hwd := (wide_ne b.w b.ld).1
  have hDr : -4521840000000 ≤ D ∧ D ≤ 4521840000000 := by omega
  unfold core
  rw [hdf, hwd, w64_in (x := sp - 10) (by omega) (by omega)]
  by_cases a1 : sp > mn f lim
  · rw [if_pos a1, if_pos a1]
  · rw [if_neg a1, if_neg a1]
    by_cases a2 : D > 0
    · rw [if_pos a2, if_pos a2, w64_in (x := D * 36) (by omega) (by omega), Int.tdiv_eq_ediv_of_nonneg (by omega)]
      have q1 : 0 ≤ D * 36 / ((w + ld) * 10000) := Int.ediv_nonneg (by omega) (by omega)
      have q2 : D * 36 / ((w + ld) * 10000) ≤ D * 36 := Int.ediv_le_self _ (by omega)
      have q3 : 1 ≤ mx (D * 36 / ((w + ld) * 10000)) 1 ∧ mx (D * 36 / ((w + ld) * 10000)) 1 ≤ 200000000000000 := by unfold mx; split <;> omega
      rw [w64_in (x := D * 36 / ((w + ld) * 10000)) (by omega) (by omega), w64_in (x := sp + mx (D * 36 / ((w + ld) * 10000)) 1) (by omega) (by omega)]
    · rw [if_neg a2, if_neg a2]
      by_cases a3 : D < 0
      · rw [if_pos a3, if_pos a3, w64_in (x := -D) (by omega) (by omega), w64_in (x := -D * 36) (by omega) (by omega), Int.tdiv_eq_ediv_of_nonneg (by omega)]
        have q1 : 0 ≤ -D * 36 / ((w + ld) * 10000) := Int.ediv_nonneg (by omega) (by omega)
        have q2 : -D * 36 / ((w + ld) * 10000) ≤ -D * 36 := Int.ediv_le_self _ (by omega)
        rw [w64_in (x := -D * 36 / ((w + ld) * 10000)) (by omega) (by omega), w64_in (x := sp - -D * 36 / ((w + ld) * 10000)) (by omega) (by omega)]
      · rw [if_neg a3, if_neg a3]
theorem core_kept {f p w pu ld sp lim up : Int} (b : B f p w pu ld sp lim up) : 0 ≤ (core f p w pu ld sp lim up).1 ∧ (core f p w pu ld sp lim up).1 ≤ mx (mn f lim) sp ∧ (sp > mn f lim → sp - 10 ≤ (core f p w pu ld sp lim up).1 ∧ mn f lim ≤ (core f p w pu ld sp lim up).1) := by
  rw [core_is b _ rfl]
  have hb := b.sp
  have hf := b.f
  have hm := b.lim
  have ht : 0 ≤ mn f lim := by unfold mn; split <;> omega
  generalize pull p pu sp - (w + ld) * (20 + sp + 300 * up) = D
  have q : D < 0 → 0 ≤ -D * 36 / ((w + ld) * 10000) := fun h => Int.ediv_nonneg (by omega) (by have := b.w; have := b.ld; omega)
  have q3 : 1 ≤ mx (D * 36 / ((w + ld) * 10000)) 1 := by unfold mx; split <;> omega
  generalize mn f lim = t at *
  generalize mx (D * 36 / ((w + ld) * 10000)) 1 = e at *
  by_cases a1 : sp > t
  · simp only [a1, if_true]
    unfold mx
    refine ⟨?_, ?_, fun _ => ⟨?_, ?_⟩⟩ <;> (repeat' split) <;> omega
  · simp only [a1, if_false]
    by_cases a2 : D > 0
    · simp only [a2, if_true]
      unfold mx mn
      refine ⟨?_, ?_, fun h => by first | exact h.elim | omega⟩ <;> (repeat' split) <;> omega
    · simp only [a2, if_false]
      by_cases a3 : D < 0
      · have := q a3
        simp only [a3, if_true]
        unfold mx
        refine ⟨?_, ?_, fun h => by first | exact h.elim | omega⟩ <;> (repeat' split) <;> omega
      · simp only [a3, if_false]
        unfold mx
        refine ⟨?_, ?_, fun h => by first | exact h.elim | omega⟩ <;> (repeat' split) <;> omega
theorem core_more {f p w pu ld ld' sp lim up : Int} (b : B f p w pu ld sp lim up) (b' : B f p w pu ld' sp lim up) (hl : ld ≤ ld') (hu : 0 ≤ up) : (core f p w pu ld' sp lim up).1 ≤ (core f p w pu ld sp lim up).1 := by
  rw [core_is b _ rfl, core_is b' _ rfl]
  have hb := b.sp
  have hP := (pull_in b.p b.pu b.sp).1
  have hw := b.w
  have h1 := b.ld
  have h2 := b'.ld
  have hF : 0 ≤ 20 + sp + 300 * up := by omega
  generalize pull p pu sp = P at *
  generalize 20 + sp + 300 * up = F at *
  have e1 : (w + ld) * F ≤ (w + ld') * F := Int.mul_le_mul_of_nonneg_right (by omega) hF
  have hx : P * (w + ld) ≤ P * (w + ld') := Int.mul_le_mul_of_nonneg_left (by omega) hP
  have x1 : (P - (w + ld') * F) * (w + ld) ≤ (P - (w + ld) * F) * (w + ld') := by
    rw [Int.sub_mul, Int.sub_mul, Int.mul_right_comm (w + ld') F (w + ld), Int.mul_right_comm (w + ld) F (w + ld'), Int.mul_comm (w + ld') (w + ld)]; omega
  have c1 : (P - (w + ld') * F) * 36 / ((w + ld') * 10000) ≤ (P - (w + ld) * F) * 36 / ((w + ld) * 10000) := by
    apply div_cross (by omega) (by omega)
    rw [m4, m4]
    exact Int.mul_le_mul_of_nonneg_right x1 (by omega)
  have c2 : -(P - (w + ld) * F) * 36 / ((w + ld) * 10000) ≤ -(P - (w + ld') * F) * 36 / ((w + ld') * 10000) := by
    apply div_cross (by omega) (by omega)
    rw [m4, m4]
    refine Int.mul_le_mul_of_nonneg_right ?_ (by omega)
    rw [Int.neg_mul, Int.neg_mul]; omega
  have n1 : P - (w + ld) * F < 0 → 0 ≤ -(P - (w + ld) * F) * 36 / ((w + ld) * 10000) := fun h => Int.ediv_nonneg (by omega) (by omega)
  have n2 : P - (w + ld') * F < 0 → 0 ≤ -(P - (w + ld') * F) * 36 / ((w + ld') * 10000) := fun h => Int.ediv_nonneg (by omega) (by omega)
  generalize (P - (w + ld') * F) * 36 / ((w + ld') * 10000) = u' at *
  generalize (P - (w + ld) * F) * 36 / ((w + ld) * 10000) = u at *
  generalize -(P - (w + ld') * F) * 36 / ((w + ld') * 10000) = v' at *
  generalize -(P - (w + ld) * F) * 36 / ((w + ld) * 10000) = v at *
  have hD : P - (w + ld') * F ≤ P - (w + ld) * F := by omega
  generalize P - (w + ld') * F = D' at *
  generalize P - (w + ld) * F = D at *
  generalize mn f lim = t at *
  by_cases a1 : sp > t
  · simp only [a1, if_true]; exact Int.le_refl _
  · simp only [a1, if_false]
    by_cases a2 : D > 0
    · by_cases a3 : D' > 0
      · simp only [a2, a3, if_true]
        unfold mx mn; (repeat' split) <;> omega
      · by_cases a4 : D' < 0
        · have := n2 a4
          simp only [a2, a3, a4, if_true, if_false]
          unfold mx mn; (repeat' split) <;> omega
        · simp only [a2, a3, a4, if_true, if_false]
          unfold mx mn; (repeat' split) <;> omega
    · have a3 : ¬ D' > 0 := by omega
      by_cases a4 : D < 0
      · have a5 : D' < 0 := by omega
        have := n1 a4; have := n2 a5
        simp only [a2, a3, a4, a5, if_true, if_false]
        unfold mx; (repeat' split) <;> omega
      · by_cases a5 : D' < 0
        · have := n2 a5
          simp only [a2, a3, a4, a5, if_true, if_false]
          unfold mx; (repeat' split) <;> omega
        · simp only [a2, a3, a4, a5, if_false]; exact Int.le_refl _
theorem FleetSpeedsKept : hinterlandlaw14_FleetSpeedsKept.Pure := by
  intro f p w pu o c n b ld ld' sp lim up _ _ _ _ _ _ _ _ _ _ _ _ _
  refine Ev.rounds ?_
  unfold hinterlandlaw14_FleetSpeedsKept.f
  refine Ev.bind (speed_ok ..) (Ev.bind (speed_ok ..) ?_)
  unfold speedr
  by_cases h1 : okS f p w pu o c n ld sp lim up = true
  · have hB := okS_B h1
    obtain ⟨k1, k2, k3⟩ := core_kept hB
    have hz : (core f p w pu ld sp lim up).2 = 0 := by rw [core_is hB _ rfl]
    have hsp := hB.sp
    have w10 : wrap64 (sp - 10) = sp - 10 := w64_in (by omega) (by omega)
    simp only [h1, if_true, hz, w10, show ¬ (core f p w pu ld sp lim up).1 < 0 by omega, show ¬ (core f p w pu ld sp lim up).1 > mx (mn f lim) sp by omega, if_false]
    have tail : Ev (fun k => hinterlandlaw14_FleetSpeedsKept.j0 k ld ld' up (core f p w pu ld sp lim up).1 (if okS f p w pu o c n ld' sp lim up = true then core f p w pu ld' sp lim up else (0, 1)).1 (if okS f p w pu o c n ld' sp lim up = true then core f p w pu ld' sp lim up else (0, 1)).2 false) true := by
      refine Ev.step (fun _ => rfl) ?_
      simp only [hinterlandlaw14_FleetSpeedsKept.j0, Bool.false_eq_true, if_false]
      by_cases h2 : okS f p w pu o c n ld' sp lim up = true
      · have hB' := okS_B h2
        have hz' : (core f p w pu ld' sp lim up).2 = 0 := by rw [core_is hB' _ rfl]
        simp only [h2, if_true, hz']
        by_cases g1 : ld > ld'
        · simp only [g1, if_true]; exact Ev.bind known_ev (Ev.now _)
        · simp only [g1, if_false]
          by_cases g2 : up < 0
          · simp only [g2, if_true]; exact Ev.bind known_ev (Ev.now _)
          · have := core_more hB hB' (by omega) (by omega)
            simp only [g2, if_false, this, if_true]; exact Ev.bind known_ev (Ev.now _)
      · simp only [h2, if_false, show ¬ ((1 : Int) = 0) by omega]; exact Ev.bind known_ev (Ev.now _)
    by_cases g : sp > mn f lim
    · obtain ⟨m1, m2⟩ := k3 g
      simp only [g, if_true, show ¬ (core f p w pu ld sp lim up).1 < sp - 10 by omega, if_false, show ¬ (core f p w pu ld sp lim up).1 < mn f lim by omega, decide_false]
      exact tail
    · simp only [g, if_false]; exact tail
  · simp only [h1, if_false, show ¬ ((1 : Int) = 0) by omega, if_true]
    exact Ev.bind known_ev (Ev.now _)
end Go.Proofs.Ytgnahbjpockdmaa.Pure
