-- PRINTED by print.py (a twelfth state) out of the translation. Not trusted: Lean checks it.
import Derived.Test.YtchflcnegpnkkabQ0
namespace Go.Proofs.Ytchflcnegpnkkab.Q
open Go.RowKit Go.Proofs.YtchflcnegpnkkabOwn Go.Proofs.YtchflcnegpnkkabW.PrintWords Go.Proofs.YtchflcnegpnkkabW.PrintLast Go.Proofs.YtchflcnegpnkkabW.PrintMore
attribute [local go_sem] max2_int min2_int max_two min_two max_three min_three max_four min_four   -- for this text's walks alone
set_option linter.unusedVariables false
set_option linter.unusedSimpArgs false

/-! ### hinterlandref02_Beyond: function 9 -/
mutual
def hinterlandref02_Beyond.j0 : Nat → Int → Int → Int → Int → Option (Int)
  | 0, _, _, _, _ => none
  | k + 1, x0, x1, x9, x10 => if x9 < 0 then (hinterlandref02_Beyond.j1 k x0 x9 x10 true) else (if x10 < 0 then (hinterlandref02_Beyond.j1 k x0 x9 x10 true) else (if x9 ≥ x0 then (hinterlandref02_Beyond.j1 k x0 x9 x10 true) else (hinterlandref02_Beyond.j1 k x0 x9 x10 (decide (x10 ≥ x1)))))
def hinterlandref02_Beyond.j1 : Nat → Int → Int → Int → Bool → Option (Int)
  | 0, _, _, _, _ => none
  | k + 1, x0, x9, x10, x49 => if x49 = true then (some (-1)) else (some (wrap64 ((wrap64 (x10 * x0)) + x9)))
end
def hinterlandref02_Beyond.f (k : Nat) (a0 : Int) (a1 : Int) (a2 : Int) (a3 : Int) : Option (Int) := if a0 = 0 then (none) else (if a3 = 0 then (hinterlandref02_Beyond.j0 k a0 a1 (wrap64 ((Int.tmod a2 a0) + 1)) (wrap64 (Int.tdiv a2 a0))) else (if a3 = 1 then (hinterlandref02_Beyond.j0 k a0 a1 (Int.tmod a2 a0) (wrap64 ((wrap64 (Int.tdiv a2 a0)) + 1))) else (if a3 = 2 then (hinterlandref02_Beyond.j0 k a0 a1 (wrap64 ((Int.tmod a2 a0) - 1)) (wrap64 (Int.tdiv a2 a0))) else (if a3 = 3 then (hinterlandref02_Beyond.j0 k a0 a1 (Int.tmod a2 a0) (wrap64 ((wrap64 (Int.tdiv a2 a0)) - 1))) else (hinterlandref02_Beyond.j0 k a0 a1 (Int.tmod a2 a0) (wrap64 (Int.tdiv a2 a0)))))))
theorem hinterlandref02_Beyond.mono_l : ∀ k, (∀ y0 y1 y2 y3, LeO (hinterlandref02_Beyond.j0 k y0 y1 y2 y3) (hinterlandref02_Beyond.j0 (k + 1) y0 y1 y2 y3)) ∧ (∀ y0 y1 y2 y3, LeO (hinterlandref02_Beyond.j1 k y0 y1 y2 y3) (hinterlandref02_Beyond.j1 (k + 1) y0 y1 y2 y3))
  | 0 => ⟨fun _ _ _ _ r h => by simp [hinterlandref02_Beyond.j0] at h, fun _ _ _ _ r h => by simp [hinterlandref02_Beyond.j1] at h⟩
  | k + 1 => by
    obtain ⟨ih0, ih1⟩ := hinterlandref02_Beyond.mono_l k
    refine ⟨?_, ?_⟩
    · intro y0 y1 y2 y3
      unfold hinterlandref02_Beyond.j0
      repeat' first
      | (with_reducible exact ih0 _ _ _ _)
      | (with_reducible exact ih1 _ _ _ _)
      | (with_reducible exact LeO.refl _)
      | (with_reducible exact LeO.none _)
      | (with_reducible refine LeO.ite ?_ ?_)
      | (with_reducible refine LeO.bind ?_ (fun _ => ?_))
      | exact ih0 _ _ _ _
      | exact ih1 _ _ _ _
      | exact LeO.none _
      | refine LeO.ite ?_ ?_
      | refine LeO.bind ?_ (fun _ => ?_)
    · intro y0 y1 y2 y3
      unfold hinterlandref02_Beyond.j1
      repeat' first
      | (with_reducible exact ih0 _ _ _ _)
      | (with_reducible exact ih1 _ _ _ _)
      | (with_reducible exact LeO.refl _)
      | (with_reducible exact LeO.none _)
      | (with_reducible refine LeO.ite ?_ ?_)
      | (with_reducible refine LeO.bind ?_ (fun _ => ?_))
      | exact ih0 _ _ _ _
      | exact ih1 _ _ _ _
      | exact LeO.none _
      | refine LeO.ite ?_ ?_
      | refine LeO.bind ?_ (fun _ => ?_)
theorem hinterlandref02_Beyond.mono : ∀ a0 a1 a2 a3 k, LeO (hinterlandref02_Beyond.f k a0 a1 a2 a3) (hinterlandref02_Beyond.f (k + 1) a0 a1 a2 a3) := by
  intro a0 a1 a2 a3 k
  obtain ⟨ih0, ih1⟩ := hinterlandref02_Beyond.mono_l k
  unfold hinterlandref02_Beyond.f
  repeat' first
      | (with_reducible exact ih0 _ _ _ _)
      | (with_reducible exact ih1 _ _ _ _)
      | (with_reducible exact LeO.refl _)
      | (with_reducible exact LeO.none _)
      | (with_reducible refine LeO.ite ?_ ?_)
      | (with_reducible refine LeO.bind ?_ (fun _ => ?_))
      | exact ih0 _ _ _ _
      | exact ih1 _ _ _ _
      | exact LeO.none _
      | refine LeO.ite ?_ ?_
      | refine LeO.bind ?_ (fun _ => ?_)
set_option maxHeartbeats 8000000 in
set_option maxRecDepth 100000 in
theorem hinterlandref02_Beyond.calls (k : Nat) (a0 : Int) (a1 : Int) (a2 : Int) (a3 : Int) (r : Int) (w : World) (h : hinterlandref02_Beyond.f k a0 a1 a2 a3 = some r) :
    Calls Try.prog 9 #[.int .i64 a0, .int .i64 a1, .int .i64 a2, .int .i64 a3] w fun e w' => e = .returned (.int .i64 r) ∧ Drawn0 w w' := by
 have H : (if a0 = 0 then (none) else (if a3 = 0 then (hinterlandref02_Beyond.j0 k a0 a1 (wrap64 ((Int.tmod a2 a0) + 1)) (wrap64 (Int.tdiv a2 a0))) else (if a3 = 1 then (hinterlandref02_Beyond.j0 k a0 a1 (Int.tmod a2 a0) (wrap64 ((wrap64 (Int.tdiv a2 a0)) + 1))) else (if a3 = 2 then (hinterlandref02_Beyond.j0 k a0 a1 (wrap64 ((Int.tmod a2 a0) - 1)) (wrap64 (Int.tdiv a2 a0))) else (if a3 = 3 then (hinterlandref02_Beyond.j0 k a0 a1 (Int.tmod a2 a0) (wrap64 ((wrap64 (Int.tdiv a2 a0)) - 1))) else (hinterlandref02_Beyond.j0 k a0 a1 (Int.tmod a2 a0) (wrap64 (Int.tdiv a2 a0)))))))) = some r := h
 clear h
 by_cases c5 : a0 = 0
 ·rw [if_pos c5] at H
  exact absurd H (by simp)
 ·rw [if_neg c5] at H
  have c5b0 : (a0 == 0) = false := beq_eq_false_iff_ne.mpr c5
  have c5b1 : (a0 != 0) = true := bne_iff_ne.mpr c5
  have HC6 := Aside0.mk H
  clear H
  go_enter Try.func9, Try.ntmps9
  go_upto_block 0 with (fail)
  repeat (go_quiet (fail); go_upto_block 0 with (fail))
  go_cut [9, 10] (fun v9 v10 wc => ∃ (kq : Nat) (x9_5 : Int) (x10_5 : Int), v9 = .int .i64 x9_5 ∧ v10 = .int .i64 x10_5 ∧ Aside0 (hinterlandref02_Beyond.j0 kq a0 a1 x9_5 x10_5 = some r) ∧ Aside0 (kq ≤ k) ∧ Drawn0 w wc)
  case first =>
   have H := HC6.out
   clear HC6
   by_cases c7 : a3 = 0
   ·rw [if_pos c7] at H
    have c7b0 : (a3 == 0) = true := beq_iff_eq.mpr c7
    have c7b1 : (a3 != 0) = false := bne_eq_false_iff_eq.mpr c7
    clear c7
    (first | rw [c7b0] | (simp only [i64_w, i32_w]; rw [c7b0]) | skip)
    have H' := Aside0.mk H
    clear H
    go_wp2
    repeat (go_quiet (fail); try go_wp2)
    go_meet
    case rel => exact ⟨_, (wrap64 ((Int.tmod a2 a0) + 1)), (wrap64 (Int.tdiv a2 a0)), (by first | rfl | (simp; done) | (simp [*]; done) | (refine congrArg (Value.int .i64) ?_; unfold wrap64; omega) | (simp only [shl_one_small _ (by assumption) (by omega)]; done) | (simp [*]; rw [shl_one_small _ (by assumption) (by omega)]; done)), (by first | rfl | (simp; done) | (simp [*]; done) | (refine congrArg (Value.int .i64) ?_; unfold wrap64; omega) | (simp only [shl_one_small _ (by assumption) (by omega)]; done) | (simp [*]; rw [shl_one_small _ (by assumption) (by omega)]; done)), H', ⟨by first | omega | exact Nat.le_refl _⟩, by repeat (first | exact Drawn0.refl _ | apply Drawn0.step)⟩
   ·rw [if_neg c7] at H
    have c7b0 : (a3 == 0) = false := beq_eq_false_iff_ne.mpr c7
    have c7b1 : (a3 != 0) = true := bne_iff_ne.mpr c7
    (first | rw [c7b0] | (simp only [i64_w, i32_w]; rw [c7b0]) | skip)
    by_cases c8 : a3 = 1
    ·rw [if_pos c8] at H
     have c8b0 : (a3 == 1) = true := beq_iff_eq.mpr c8
     have c8b1 : (a3 != 1) = false := bne_eq_false_iff_eq.mpr c8
     clear c8
     have H' := Aside0.mk H
     clear H
     go_wp2
     repeat (go_quiet (fail); try go_wp2)
     go_meet
     case rel => exact ⟨_, (Int.tmod a2 a0), (wrap64 ((wrap64 (Int.tdiv a2 a0)) + 1)), (by first | rfl | (simp; done) | (simp [*]; done) | (refine congrArg (Value.int .i64) ?_; unfold wrap64; omega) | (simp only [shl_one_small _ (by assumption) (by omega)]; done) | (simp [*]; rw [shl_one_small _ (by assumption) (by omega)]; done)), (by first | rfl | (simp; done) | (simp [*]; done) | (refine congrArg (Value.int .i64) ?_; unfold wrap64; omega) | (simp only [shl_one_small _ (by assumption) (by omega)]; done) | (simp [*]; rw [shl_one_small _ (by assumption) (by omega)]; done)), H', ⟨by first | omega | exact Nat.le_refl _⟩, by repeat (first | exact Drawn0.refl _ | apply Drawn0.step)⟩
    ·rw [if_neg c8] at H
     have c8b0 : (a3 == 1) = false := beq_eq_false_iff_ne.mpr c8
     have c8b1 : (a3 != 1) = true := bne_iff_ne.mpr c8
     by_cases c9 : a3 = 2
     ·rw [if_pos c9] at H
      have c9b0 : (a3 == 2) = true := beq_iff_eq.mpr c9
      have c9b1 : (a3 != 2) = false := bne_eq_false_iff_eq.mpr c9
      clear c9
      have H' := Aside0.mk H
      clear H
      go_wp2
      repeat (go_quiet (fail); try go_wp2)
      go_meet
      case rel => exact ⟨_, (wrap64 ((Int.tmod a2 a0) - 1)), (wrap64 (Int.tdiv a2 a0)), (by first | rfl | (simp; done) | (simp [*]; done) | (refine congrArg (Value.int .i64) ?_; unfold wrap64; omega) | (simp only [shl_one_small _ (by assumption) (by omega)]; done) | (simp [*]; rw [shl_one_small _ (by assumption) (by omega)]; done)), (by first | rfl | (simp; done) | (simp [*]; done) | (refine congrArg (Value.int .i64) ?_; unfold wrap64; omega) | (simp only [shl_one_small _ (by assumption) (by omega)]; done) | (simp [*]; rw [shl_one_small _ (by assumption) (by omega)]; done)), H', ⟨by first | omega | exact Nat.le_refl _⟩, by repeat (first | exact Drawn0.refl _ | apply Drawn0.step)⟩
     ·rw [if_neg c9] at H
      have c9b0 : (a3 == 2) = false := beq_eq_false_iff_ne.mpr c9
      have c9b1 : (a3 != 2) = true := bne_iff_ne.mpr c9
      by_cases c10 : a3 = 3
      ·rw [if_pos c10] at H
       have c10b0 : (a3 == 3) = true := beq_iff_eq.mpr c10
       have c10b1 : (a3 != 3) = false := bne_eq_false_iff_eq.mpr c10
       clear c10
       have H' := Aside0.mk H
       clear H
       go_wp2
       repeat (go_quiet (fail); try go_wp2)
       go_meet
       case rel => exact ⟨_, (Int.tmod a2 a0), (wrap64 ((wrap64 (Int.tdiv a2 a0)) - 1)), (by first | rfl | (simp; done) | (simp [*]; done) | (refine congrArg (Value.int .i64) ?_; unfold wrap64; omega) | (simp only [shl_one_small _ (by assumption) (by omega)]; done) | (simp [*]; rw [shl_one_small _ (by assumption) (by omega)]; done)), (by first | rfl | (simp; done) | (simp [*]; done) | (refine congrArg (Value.int .i64) ?_; unfold wrap64; omega) | (simp only [shl_one_small _ (by assumption) (by omega)]; done) | (simp [*]; rw [shl_one_small _ (by assumption) (by omega)]; done)), H', ⟨by first | omega | exact Nat.le_refl _⟩, by repeat (first | exact Drawn0.refl _ | apply Drawn0.step)⟩
      ·rw [if_neg c10] at H
       have c10b0 : (a3 == 3) = false := beq_eq_false_iff_ne.mpr c10
       have c10b1 : (a3 != 3) = true := bne_iff_ne.mpr c10
       have H' := Aside0.mk H
       clear H
       go_wp2
       repeat (go_quiet (fail); try go_wp2)
       go_meet
       case rel => exact ⟨_, (Int.tmod a2 a0), (wrap64 (Int.tdiv a2 a0)), (by first | rfl | (simp; done) | (simp [*]; done) | (refine congrArg (Value.int .i64) ?_; unfold wrap64; omega) | (simp only [shl_one_small _ (by assumption) (by omega)]; done) | (simp [*]; rw [shl_one_small _ (by assumption) (by omega)]; done)), (by first | rfl | (simp; done) | (simp [*]; done) | (refine congrArg (Value.int .i64) ?_; unfold wrap64; omega) | (simp only [shl_one_small _ (by assumption) (by omega)]; done) | (simp [*]; rw [shl_one_small _ (by assumption) (by omega)]; done)), H', ⟨by first | omega | exact Nat.le_refl _⟩, by repeat (first | exact Drawn0.refl _ | apply Drawn0.step)⟩
  case rest =>
   clear HC6
   try clear c1
   try clear p2
   try clear c5
   try clear c5b0
   try clear c5b1
   try clear p6
   try clear c7
   try clear c7b0
   try clear c7b1
   try clear c8
   try clear c8b0
   try clear c8b1
   try clear c9
   try clear c9b0
   try clear c9b1
   try clear c10
   try clear c10b0
   try clear c10b1
   obtain ⟨kq, x9_5, x10_5, rfl, rfl, HA, HJ5, ⟨mc5, rfl⟩⟩ := hcut
   cases kq with
   | zero => exact absurd HA.out (by simp [hinterlandref02_Beyond.j0])
   | succ kj5 =>
    have H := HA.out
    clear HA
    simp only [hinterlandref02_Beyond.j0] at H
    have HC11 := Aside0.mk H
    clear H
    go_upto_region 11 with (fail)
    repeat (go_quiet (fail); go_upto_region 11 with (fail))
    go_cut [49] (fun v49 wc => ∃ (kq : Nat) (x49_10 : Bool), v49 = .bool x49_10 ∧ Aside0 (hinterlandref02_Beyond.j1 kq a0 x9_5 x10_5 x49_10 = some r) ∧ Aside0 (kq ≤ kj5) ∧ Drawn0 w wc)
    case first =>
     have H := HC11.out
     clear HC11
     by_cases c12 : x9_5 < 0
     ·rw [if_pos c12] at H
      have c12b0 : decide (x9_5 < 0) = true := decide_eq_true c12
      clear c12
      (first | rw [c12b0] | (simp only [i64_w, i32_w]; rw [c12b0]) | skip)
      have H' := Aside0.mk H
      clear H
      go_wp2
      repeat (go_quiet (fail); try go_wp2)
      go_meet
      case rel => exact ⟨_, (true), (by first | rfl | (simp; done) | (simp [*]; done) | (refine congrArg (Value.int .i64) ?_; unfold wrap64; omega) | (simp only [shl_one_small _ (by assumption) (by omega)]; done) | (simp [*]; rw [shl_one_small _ (by assumption) (by omega)]; done)), H', ⟨by have := HJ5.out; first | omega | exact Nat.le_refl _⟩, by repeat (first | exact Drawn0.refl _ | apply Drawn0.step)⟩
     ·rw [if_neg c12] at H
      have c12b0 : decide (x9_5 < 0) = false := decide_eq_false c12
      clear c12
      (first | rw [c12b0] | (simp only [i64_w, i32_w]; rw [c12b0]) | skip)
      by_cases c13 : x10_5 < 0
      ·rw [if_pos c13] at H
       have c13b0 : decide (x10_5 < 0) = true := decide_eq_true c13
       clear c13
       have H' := Aside0.mk H
       clear H
       go_wp2
       repeat (go_quiet (fail); try go_wp2)
       go_meet
       case rel => exact ⟨_, (true), (by first | rfl | (simp; done) | (simp [*]; done) | (refine congrArg (Value.int .i64) ?_; unfold wrap64; omega) | (simp only [shl_one_small _ (by assumption) (by omega)]; done) | (simp [*]; rw [shl_one_small _ (by assumption) (by omega)]; done)), H', ⟨by have := HJ5.out; first | omega | exact Nat.le_refl _⟩, by repeat (first | exact Drawn0.refl _ | apply Drawn0.step)⟩
      ·rw [if_neg c13] at H
       have c13b0 : decide (x10_5 < 0) = false := decide_eq_false c13
       clear c13
       by_cases c14 : x9_5 ≥ a0
       ·rw [if_pos c14] at H
        have c14b0 : decide (a0 ≤ x9_5) = true := decide_eq_true c14
        clear c14
        have H' := Aside0.mk H
        clear H
        go_wp2
        repeat (go_quiet (fail); try go_wp2)
        go_meet
        case rel => exact ⟨_, (true), (by first | rfl | (simp; done) | (simp [*]; done) | (refine congrArg (Value.int .i64) ?_; unfold wrap64; omega) | (simp only [shl_one_small _ (by assumption) (by omega)]; done) | (simp [*]; rw [shl_one_small _ (by assumption) (by omega)]; done)), H', ⟨by have := HJ5.out; first | omega | exact Nat.le_refl _⟩, by repeat (first | exact Drawn0.refl _ | apply Drawn0.step)⟩
       ·rw [if_neg c14] at H
        have c14b0 : decide (a0 ≤ x9_5) = false := decide_eq_false c14
        clear c14
        have H' := Aside0.mk H
        clear H
        go_wp2
        repeat (go_quiet (fail); try go_wp2)
        go_meet
        case rel => exact ⟨_, (decide (x10_5 ≥ a1)), (by first | rfl | (simp; done) | (simp [*]; done) | (refine congrArg (Value.int .i64) ?_; unfold wrap64; omega) | (simp only [shl_one_small _ (by assumption) (by omega)]; done) | (simp [*]; rw [shl_one_small _ (by assumption) (by omega)]; done)), H', ⟨by have := HJ5.out; first | omega | exact Nat.le_refl _⟩, by repeat (first | exact Drawn0.refl _ | apply Drawn0.step)⟩
    case rest =>
     clear HC11
     try clear c1
     try clear p2
     try clear c5
     try clear c5b0
     try clear c5b1
     try clear p6
     try clear c7
     try clear c7b0
     try clear c7b1
     try clear c8
     try clear c8b0
     try clear c8b1
     try clear c9
     try clear c9b0
     try clear c9b1
     try clear c10
     try clear c10b0
     try clear c10b1
     try clear c12
     try clear c12b0
     try clear c13
     try clear c13b0
     try clear c14
     try clear c14b0
     try clear p2
     try clear p6
     obtain ⟨kq, x49_10, rfl, HA, HJ10, ⟨mc10, rfl⟩⟩ := hcut
     cases kq with
     | zero => exact absurd HA.out (by simp [hinterlandref02_Beyond.j1])
     | succ kj10 =>
      have H := HA.out
      clear HA
      simp only [hinterlandref02_Beyond.j1] at H
      by_cases c15 : x49_10 = true
      ·subst c15
       have H1 : (some (-1)) = some r := by rw [if_pos rfl] at H; exact H
       clear H
       have H := H1
       clear H1
       obtain rfl := Option.some.inj H
       go_wp2
       repeat (go_quiet (fail); try go_wp2)
       go_ret
       exact ⟨by first | rfl | (simp; done) | (simp [*]; done) | (refine congrArg (Value.int .i64) ?_; unfold wrap64; omega) | (simp only [shl_one_small _ (by assumption) (by omega)]; done) | (simp [*]; rw [shl_one_small _ (by assumption) (by omega)]; done), by repeat (first | exact Drawn0.refl _ | apply Drawn0.step)⟩
      ·replace c15 := Bool.eq_false_iff.mpr c15
       subst c15
       have H1 : (some (wrap64 ((wrap64 (x10_5 * a0)) + x9_5))) = some r := by rw [if_neg (show ¬ (false = true) by decide)] at H; exact H
       clear H
       have H := H1
       clear H1
       obtain rfl := Option.some.inj H
       go_wp2
       repeat (go_quiet (fail); try go_wp2)
       go_ret
       exact ⟨by first | rfl | (simp; done) | (simp [*]; done) | (refine congrArg (Value.int .i64) ?_; unfold wrap64; omega) | (simp only [shl_one_small _ (by assumption) (by omega)]; done) | (simp [*]; rw [shl_one_small _ (by assumption) (by omega)]; done), by repeat (first | exact Drawn0.refl _ | apply Drawn0.step)⟩

end Go.Proofs.Ytchflcnegpnkkab.Q
