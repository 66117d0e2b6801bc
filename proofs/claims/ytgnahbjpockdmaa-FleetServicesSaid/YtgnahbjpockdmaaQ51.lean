-- PRINTED by print.py out of the translation. Not trusted: Lean checks it.
import Derived.Test.YtgnahbjpockdmaaPrs
import Derived.Test.YtgnahbjpockdmaaQ0
import Derived.Test.YtgnahbjpockdmaaQ39
import Derived.Test.YtgnahbjpockdmaaQ2
namespace Go.Proofs.Ytgnahbjpockdmaa.Q
open Go.RowKit Go.Proofs.YtgnahbjpockdmaaPrs Go.Proofs.YtgnahbjpockdmaaOwn Go.Proofs.YtgnahbjpockdmaaW.PrintWords Go.Proofs.YtgnahbjpockdmaaW.PrintLast Go.Proofs.YtgnahbjpockdmaaW.PrintMore
attribute [local go_sem] max2_int min2_int max_two min_two max_three min_three max_four min_four   -- for this text's walks alone
set_option linter.unusedVariables false
set_option linter.unusedSimpArgs false

/-! ### fleet_least_trust: function 47 -/
def fleet_least_trust.l0 : Nat → List (S54) → Int → List Int → Int → Int → Option (Int)
  | 0, _, _, _, _, _ => none
  | k + 1, x0, x7, x18, x19, x20 => if x20 < x19 then (if 0 ≤ x20 then (if x20 < (x18.length : Int) then (if 0 ≤ (rd x18 x20) then (if (rd x18 x20) < (x0.length : Int) then ((fleet_trust.f ((rd_T54 x0 (rd x18 x20)).f0) ((rd_T54 x0 (rd x18 x20)).f1) ((rd_T54 x0 (rd x18 x20)).f2) ((rd_T54 x0 (rd x18 x20)).f3) ((rd_T54 x0 (rd x18 x20)).f4) ((rd_T54 x0 (rd x18 x20)).f5) ((rd_T54 x0 (rd x18 x20)).f6) ((rd_T54 x0 (rd x18 x20)).f7) ((rd_T54 x0 (rd x18 x20)).f8) ((rd_T54 x0 (rd x18 x20)).f9) ((rd_T54 x0 (rd x18 x20)).f10) ((rd_T54 x0 (rd x18 x20)).f11) ((rd_T54 x0 (rd x18 x20)).f12) ((rd_T54 x0 (rd x18 x20)).f13)).bind fun t479 => (fleet_least_trust.l0 k x0 (mn x7 t479) x18 x19 (wrap64 (x20 + 1)))) else (none)) else (none)) else (none)) else (none)) else (some x7)
def fleet_least_trust.f (k : Nat) (l0 : List (S54)) (l1 : List Int)  : Option (Int) := if 0 < (l1.length : Int) then (if 0 ≤ (rd l1 0) then (if (rd l1 0) < (l0.length : Int) then ((fleet_trust.f ((rd_T54 l0 (rd l1 0)).f0) ((rd_T54 l0 (rd l1 0)).f1) ((rd_T54 l0 (rd l1 0)).f2) ((rd_T54 l0 (rd l1 0)).f3) ((rd_T54 l0 (rd l1 0)).f4) ((rd_T54 l0 (rd l1 0)).f5) ((rd_T54 l0 (rd l1 0)).f6) ((rd_T54 l0 (rd l1 0)).f7) ((rd_T54 l0 (rd l1 0)).f8) ((rd_T54 l0 (rd l1 0)).f9) ((rd_T54 l0 (rd l1 0)).f10) ((rd_T54 l0 (rd l1 0)).f11) ((rd_T54 l0 (rd l1 0)).f12) ((rd_T54 l0 (rd l1 0)).f13)).bind fun t476 => (fleet_least_trust.l0 k l0 t476 l1 (l1.length : Int) 0)) else (none)) else (none)) else (none)
theorem fleet_least_trust.mono_l : ∀ k, (∀ y0 y1 y2 y3 y4, LeO (fleet_least_trust.l0 k y0 y1 y2 y3 y4) (fleet_least_trust.l0 (k + 1) y0 y1 y2 y3 y4))
  | 0 => fun _ _ _ _ _ r h => by simp [fleet_least_trust.l0] at h
  | k + 1 => by
    have ih0 := fleet_least_trust.mono_l k
    · intro y0 y1 y2 y3 y4
      unfold fleet_least_trust.l0
      repeat' first
      | (with_reducible first | exact ih0 _ _ _ _ _ | exact LeO.refl _ | exact LeO.none _ | refine LeO.ite ?_ ?_ | refine LeO.bind ?_ (fun _ => ?_))
      | exact ih0 _ _ _ _ _
      | exact LeO.none _
      | refine LeO.ite ?_ ?_
      | refine LeO.bind ?_ (fun _ => ?_)
theorem fleet_least_trust.mono : ∀ a0 a1 k, LeO (fleet_least_trust.f k a0 a1) (fleet_least_trust.f (k + 1) a0 a1) := by
  intro a0 a1 k
  have ih0 := fleet_least_trust.mono_l k
  unfold fleet_least_trust.f
  repeat' first
      | (with_reducible first | exact ih0 _ _ _ _ _ | exact LeO.refl _ | exact LeO.none _ | refine LeO.ite ?_ ?_ | refine LeO.bind ?_ (fun _ => ?_))
      | exact ih0 _ _ _ _ _
      | exact LeO.none _
      | refine LeO.ite ?_ ?_
      | refine LeO.bind ?_ (fun _ => ?_)
set_option maxHeartbeats 8000000 in
set_option maxRecDepth 100000 in
theorem fleet_least_trust.calls (k : Nat) (A0 : Option Addr) (c0 : Nat) (l0 : List (S54)) (A1 : Option Addr) (c1 : Nat) (l1 : List Int)  (r : Int) (w : World) (hr0 : Kd.C k54 w A0 l0.length l0) (hc0 : l0.length ≤ c0) (hr1 : Kd.C (Kd.int .i64) w A1 l1.length l1) (hc1 : l1.length ≤ c1) (h : fleet_least_trust.f k l0 l1 = some r) :
    Calls Try.prog 47 #[.slice A0 l0.length c0, .slice A1 l1.length c1, .func (.func 48) #[] #[]] w fun e w' => e = .returned (.int .i64 r) ∧ Below w.heap.size w w' := by
 have hu54 := Try.underlying54
 have HR0 := Aside0.mk hr0
 have HC0 := Aside0.mk hc0
 clear hr0 hc0
 have HR1 := Aside0.mk hr1
 have HC1 := Aside0.mk hc1
 clear hr1 hc1
 have HB := Aside0.mk (Below.refl w.heap.size w)
 have H : (if 0 < (l1.length : Int) then (if 0 ≤ (rd l1 0) then (if (rd l1 0) < (l0.length : Int) then ((fleet_trust.f ((rd_T54 l0 (rd l1 0)).f0) ((rd_T54 l0 (rd l1 0)).f1) ((rd_T54 l0 (rd l1 0)).f2) ((rd_T54 l0 (rd l1 0)).f3) ((rd_T54 l0 (rd l1 0)).f4) ((rd_T54 l0 (rd l1 0)).f5) ((rd_T54 l0 (rd l1 0)).f6) ((rd_T54 l0 (rd l1 0)).f7) ((rd_T54 l0 (rd l1 0)).f8) ((rd_T54 l0 (rd l1 0)).f9) ((rd_T54 l0 (rd l1 0)).f10) ((rd_T54 l0 (rd l1 0)).f11) ((rd_T54 l0 (rd l1 0)).f12) ((rd_T54 l0 (rd l1 0)).f13)).bind fun t476 => (fleet_least_trust.l0 k l0 t476 l1 (l1.length : Int) 0)) else (none)) else (none)) else (none)) = some r := h
 clear h
 by_cases c4 : 0 < (l1.length : Int)
 ·rw [if_pos c4] at H
  have c4b0 : decide (0 < (l1.length : Int)) = true := decide_eq_true c4
  have c4b1 : decide (0 < l1.length) = true := decide_eq_true (by omega)
  clear c4
  by_cases c5 : 0 ≤ (rd l1 0)
  ·rw [if_pos c5] at H
   have c5b0 : decide (0 ≤ (rd l1 0)) = true := decide_eq_true c5
   clear c5
   by_cases c6 : (rd l1 0) < (l0.length : Int)
   ·rw [if_pos c6] at H
    have c6b0 : decide ((rd l1 0) < (l0.length : Int)) = true := decide_eq_true c6
    clear c6
    replace H := Option.bind_eq_some_iff.mp H
    obtain ⟨t476, A70, H⟩ := H
    replace H : (fleet_least_trust.l0 k l0 t476 l1 (l1.length : Int) 0) = some r := H
    have A7 := Aside0.mk A70
    clear A70
    have H' := Aside0.mk H
    clear H
    have p474 : 0 ≤ (0 : Int) := (by omega)
    have q474 : 0 < (l1.length : Int) := of_decide_eq_true tW_
    obtain ⟨ad474, e474, hx474_0⟩ := Kd.at_int HR1.out 0 p474 q474
    cases e474
    have qi474 : (0 < l1.length) = True := eq_true (by omega)
    (try rw [show ((0 : Int)).toNat = 0 from rfl] at hx474_0)
    (try rw [Addr.add_zero'] at hx474_0)
    replace p474 := eq_true p474
    replace q474 := eq_true q474
    have p475 : 0 ≤ ((rd l1 0) : Int) := of_decide_eq_true tW_
    have q475 : (rd l1 0) < (l0.length : Int) := of_decide_eq_true tW_
    obtain ⟨ad475, e475, hx475_0, hx475_1, hx475_2, hx475_3, hx475_4, hx475_5, hx475_6, hx475_7, hx475_8, hx475_9, hx475_10, hx475_11, hx475_12, hx475_13⟩ := at_T54 HR0.out (rd l1 0) p475 q475
    cases e475
    replace p475 := eq_true p475
    replace q475 := eq_true q475
    go_enter Try.func47, Try.ntmps47
    go_wp2_with (first | (go_at_call 48; (with_reducible refine (fleet_trust.calls ((rd_T54 l0 (rd l1 0)).f0) ((rd_T54 l0 (rd l1 0)).f1) ((rd_T54 l0 (rd l1 0)).f2) ((rd_T54 l0 (rd l1 0)).f3) ((rd_T54 l0 (rd l1 0)).f4) ((rd_T54 l0 (rd l1 0)).f5) ((rd_T54 l0 (rd l1 0)).f6) ((rd_T54 l0 (rd l1 0)).f7) ((rd_T54 l0 (rd l1 0)).f8) ((rd_T54 l0 (rd l1 0)).f9) ((rd_T54 l0 (rd l1 0)).f10) ((rd_T54 l0 (rd l1 0)).f11) ((rd_T54 l0 (rd l1 0)).f12) ((rd_T54 l0 (rd l1 0)).f13) t476 _ A7.out).mono ?_); rintro e w8 ⟨rfl, hb⟩; replace HB := Aside0.mk (below_step (dL_ HB) hb)))
    go_loopg [7, 20] k (fun kq v7 v20 w' => ∃ (x7_1 : Int) (x20_1 : Int), v7 = .int .i64 x7_1 ∧ v20 = .int .i64 x20_1 ∧ Aside0 (fleet_least_trust.l0 kq l0 x7_1 l1 (l1.length : Int) x20_1 = some r) ∧ Aside0 (kq ≤ k) ∧ Aside0 (Below w.heap.size w w'))
    case atStart => exact ⟨(t476), (0), tS_, tS_, H', ⟨Nat.le_refl _⟩, ⟨dL_ HB⟩⟩
    case round =>
     clear H'
     try clear c1
     try clear c4
     try clear c4b0
     try clear c4b1
     try clear c5
     try clear c5b0
     try clear c6
     try clear c6b0
     try clear hx474_0
     try clear hx475_0
     try clear hx475_1
     try clear hx475_10
     try clear hx475_11
     try clear hx475_12
     try clear hx475_13
     try clear hx475_2
     try clear hx475_3
     try clear hx475_4
     try clear hx475_5
     try clear hx475_6
     try clear hx475_7
     try clear hx475_8
     try clear hx475_9
     try clear p474
     try clear p475
     try clear q474
     try clear q475
     obtain ⟨x7_1, x20_1, rfl, rfl, HA, HK1, HB⟩ := hrel
     cases gk with
     | zero => exact absurd HA.out (by simp [fleet_least_trust.l0])
     | succ k1 =>
      have H := HA.out
      clear HA
      simp only [fleet_least_trust.l0] at H
      by_cases c9 : x20_1 < (l1.length : Int)
      ·rw [if_pos c9] at H
       have c9b0 : decide (x20_1 < (l1.length : Int)) = true := decide_eq_true c9
       clear c9
       by_cases c10 : 0 ≤ x20_1
       ·rw [if_pos c10] at H
        have c10b0 : decide (0 ≤ x20_1) = true := decide_eq_true c10
        clear c10
        by_cases c11 : x20_1 < (l1.length : Int)
        ·rw [if_pos c11] at H
         have c11b0 : decide (x20_1 < (l1.length : Int)) = true := decide_eq_true c11
         clear c11
         by_cases c12 : 0 ≤ (rd l1 x20_1)
         ·rw [if_pos c12] at H
          have c12b0 : decide (0 ≤ (rd l1 x20_1)) = true := decide_eq_true c12
          clear c12
          by_cases c13 : (rd l1 x20_1) < (l0.length : Int)
          ·rw [if_pos c13] at H
           have c13b0 : decide ((rd l1 x20_1) < (l0.length : Int)) = true := decide_eq_true c13
           clear c13
           replace H := Option.bind_eq_some_iff.mp H
           obtain ⟨t479, A140, H⟩ := H
           replace H : (fleet_least_trust.l0 k1 l0 (mn x7_1 t479) l1 (l1.length : Int) (wrap64 (x20_1 + 1))) = some r := H
           have A14 := Aside0.mk A140
           clear A140
           obtain ⟨ji15, hji15⟩ : ∃ j_ : Int, (mn x7_1 t479) = j_ := ⟨_, rfl⟩
           replace H : (fleet_least_trust.l0 k1 l0 ji15 l1 (l1.length : Int) (wrap64 (x20_1 + 1))) = some r := by first | (rw [hji15] at H; exact H) | (simp only [hji15] at H ⊢; exact H)
           (try rw [hji15] at A14)
           have hji15_ : (if t479 < x7_1 then t479 else x7_1) = ji15 := hji15
           have H' := Aside0.mk H
           clear H
           have p477 : 0 ≤ (x20_1 : Int) := of_decide_eq_true tW_
           have q477 : x20_1 < (l1.length : Int) := of_decide_eq_true tW_
           obtain ⟨ad477, e477, hx477_0⟩ := Kd.at_int HR1.out x20_1 p477 q477
           obtain rfl : ad474 = ad477 := (by injection e477)
           replace hx477_0 := bc_ HB hx477_0
           replace p477 := eq_true p477
           replace q477 := eq_true q477
           have p478 : 0 ≤ ((rd l1 x20_1) : Int) := of_decide_eq_true tW_
           have q478 : (rd l1 x20_1) < (l0.length : Int) := of_decide_eq_true tW_
           obtain ⟨ad478, e478, hx478_0, hx478_1, hx478_2, hx478_3, hx478_4, hx478_5, hx478_6, hx478_7, hx478_8, hx478_9, hx478_10, hx478_11, hx478_12, hx478_13⟩ := at_T54 HR0.out (rd l1 x20_1) p478 q478
           obtain rfl : ad475 = ad478 := (by injection e478)
           replace hx478_0 := bc_ HB hx478_0
           replace hx478_1 := bc_ HB hx478_1
           replace hx478_2 := bc_ HB hx478_2
           replace hx478_3 := bc_ HB hx478_3
           replace hx478_4 := bc_ HB hx478_4
           replace hx478_5 := bc_ HB hx478_5
           replace hx478_6 := bc_ HB hx478_6
           replace hx478_7 := bc_ HB hx478_7
           replace hx478_8 := bc_ HB hx478_8
           replace hx478_9 := bc_ HB hx478_9
           replace hx478_10 := bc_ HB hx478_10
           replace hx478_11 := bc_ HB hx478_11
           replace hx478_12 := bc_ HB hx478_12
           replace hx478_13 := bc_ HB hx478_13
           replace p478 := eq_true p478
           replace q478 := eq_true q478
           go_wp2_with (first | (go_at_call 48; (with_reducible refine (fleet_trust.calls ((rd_T54 l0 (rd l1 x20_1)).f0) ((rd_T54 l0 (rd l1 x20_1)).f1) ((rd_T54 l0 (rd l1 x20_1)).f2) ((rd_T54 l0 (rd l1 x20_1)).f3) ((rd_T54 l0 (rd l1 x20_1)).f4) ((rd_T54 l0 (rd l1 x20_1)).f5) ((rd_T54 l0 (rd l1 x20_1)).f6) ((rd_T54 l0 (rd l1 x20_1)).f7) ((rd_T54 l0 (rd l1 x20_1)).f8) ((rd_T54 l0 (rd l1 x20_1)).f9) ((rd_T54 l0 (rd l1 x20_1)).f10) ((rd_T54 l0 (rd l1 x20_1)).f11) ((rd_T54 l0 (rd l1 x20_1)).f12) ((rd_T54 l0 (rd l1 x20_1)).f13) t479 _ A14.out).mono ?_); rintro e w16 ⟨rfl, hb⟩; replace HB := Aside0.mk (below_step (dL_ HB) hb)))
           go_roundg k1
           case measure => have := HK1.out; omega
           case rel => exact ⟨(ji15), (wrap64 (x20_1 + 1)), (by first | rfl | (simp; done) | (simp only [← hji15]; rw [shl_one_small _ (by assumption) (by omega)]; done) | (simp only [← hji15] <;> (first | rfl | simp)) | (simp [*]; done) | (refine congrArg (Value.int .i64) ?_; unfold wrap64; omega) | (simp only [shl_one_small _ (by assumption) (by omega)]; done) | (simp [*]; rw [shl_one_small _ (by assumption) (by omega)]; done)), tS_, H', ⟨by have := HK1.out; omega⟩, ⟨dL_ HB⟩⟩
          ·rw [if_neg c13] at H
           exact absurd H (by simp)
         ·rw [if_neg c12] at H
          exact absurd H (by simp)
        ·rw [if_neg c11] at H
         exact absurd H (by simp)
       ·rw [if_neg c10] at H
        exact absurd H (by simp)
      ·rw [if_neg c9] at H
       have c9b0 : decide (x20_1 < (l1.length : Int)) = false := decide_eq_false c9
       clear c9
       obtain rfl := Option.some.inj H
       go_wp2
       go_ret
       exact ⟨tE_, dL_ HB⟩
   ·rw [if_neg c6] at H
    exact absurd H (by simp)
  ·rw [if_neg c5] at H
   exact absurd H (by simp)
 ·rw [if_neg c4] at H
  exact absurd H (by simp)

end Go.Proofs.Ytgnahbjpockdmaa.Q
namespace Go.Proofs.Ytgnahbjpockdmaa.Q
open Go.RowKit Go.Proofs.YtgnahbjpockdmaaPrs Go.Proofs.YtgnahbjpockdmaaOwn Go.Proofs.YtgnahbjpockdmaaW.PrintWords Go.Proofs.YtgnahbjpockdmaaW.PrintLast Go.Proofs.YtgnahbjpockdmaaW.PrintMore
attribute [local go_sem] max2_int min2_int max_two min_two max_three min_three max_four min_four   -- for this text's walks alone
set_option linter.unusedVariables false
set_option linter.unusedSimpArgs false

/-! ### fleet_least_life: function 47 -/
def fleet_least_life.l0 : Nat → List (S54) → Int → List Int → Int → Int → Option (Int)
  | 0, _, _, _, _, _ => none
  | k + 1, x0, x7, x18, x19, x20 => if x20 < x19 then (if 0 ≤ x20 then (if x20 < (x18.length : Int) then (if 0 ≤ (rd x18 x20) then (if (rd x18 x20) < (x0.length : Int) then ((fleet_life.f ((rd_T54 x0 (rd x18 x20)).f0) ((rd_T54 x0 (rd x18 x20)).f1) ((rd_T54 x0 (rd x18 x20)).f2) ((rd_T54 x0 (rd x18 x20)).f3) ((rd_T54 x0 (rd x18 x20)).f4) ((rd_T54 x0 (rd x18 x20)).f5) ((rd_T54 x0 (rd x18 x20)).f6) ((rd_T54 x0 (rd x18 x20)).f7) ((rd_T54 x0 (rd x18 x20)).f8) ((rd_T54 x0 (rd x18 x20)).f9) ((rd_T54 x0 (rd x18 x20)).f10) ((rd_T54 x0 (rd x18 x20)).f11) ((rd_T54 x0 (rd x18 x20)).f12) ((rd_T54 x0 (rd x18 x20)).f13)).bind fun t485 => (fleet_least_life.l0 k x0 (mn x7 t485) x18 x19 (wrap64 (x20 + 1)))) else (none)) else (none)) else (none)) else (none)) else (some x7)
def fleet_least_life.f (k : Nat) (l0 : List (S54)) (l1 : List Int)  : Option (Int) := if 0 < (l1.length : Int) then (if 0 ≤ (rd l1 0) then (if (rd l1 0) < (l0.length : Int) then ((fleet_life.f ((rd_T54 l0 (rd l1 0)).f0) ((rd_T54 l0 (rd l1 0)).f1) ((rd_T54 l0 (rd l1 0)).f2) ((rd_T54 l0 (rd l1 0)).f3) ((rd_T54 l0 (rd l1 0)).f4) ((rd_T54 l0 (rd l1 0)).f5) ((rd_T54 l0 (rd l1 0)).f6) ((rd_T54 l0 (rd l1 0)).f7) ((rd_T54 l0 (rd l1 0)).f8) ((rd_T54 l0 (rd l1 0)).f9) ((rd_T54 l0 (rd l1 0)).f10) ((rd_T54 l0 (rd l1 0)).f11) ((rd_T54 l0 (rd l1 0)).f12) ((rd_T54 l0 (rd l1 0)).f13)).bind fun t482 => (fleet_least_life.l0 k l0 t482 l1 (l1.length : Int) 0)) else (none)) else (none)) else (none)
theorem fleet_least_life.mono_l : ∀ k, (∀ y0 y1 y2 y3 y4, LeO (fleet_least_life.l0 k y0 y1 y2 y3 y4) (fleet_least_life.l0 (k + 1) y0 y1 y2 y3 y4))
  | 0 => fun _ _ _ _ _ r h => by simp [fleet_least_life.l0] at h
  | k + 1 => by
    have ih0 := fleet_least_life.mono_l k
    · intro y0 y1 y2 y3 y4
      unfold fleet_least_life.l0
      repeat' first
      | (with_reducible first | exact ih0 _ _ _ _ _ | exact LeO.refl _ | exact LeO.none _ | refine LeO.ite ?_ ?_ | refine LeO.bind ?_ (fun _ => ?_))
      | exact ih0 _ _ _ _ _
      | exact LeO.none _
      | refine LeO.ite ?_ ?_
      | refine LeO.bind ?_ (fun _ => ?_)
theorem fleet_least_life.mono : ∀ a0 a1 k, LeO (fleet_least_life.f k a0 a1) (fleet_least_life.f (k + 1) a0 a1) := by
  intro a0 a1 k
  have ih0 := fleet_least_life.mono_l k
  unfold fleet_least_life.f
  repeat' first
      | (with_reducible first | exact ih0 _ _ _ _ _ | exact LeO.refl _ | exact LeO.none _ | refine LeO.ite ?_ ?_ | refine LeO.bind ?_ (fun _ => ?_))
      | exact ih0 _ _ _ _ _
      | exact LeO.none _
      | refine LeO.ite ?_ ?_
      | refine LeO.bind ?_ (fun _ => ?_)
set_option maxHeartbeats 8000000 in
set_option maxRecDepth 100000 in
theorem fleet_least_life.calls (k : Nat) (A0 : Option Addr) (c0 : Nat) (l0 : List (S54)) (A1 : Option Addr) (c1 : Nat) (l1 : List Int)  (r : Int) (w : World) (hr0 : Kd.C k54 w A0 l0.length l0) (hc0 : l0.length ≤ c0) (hr1 : Kd.C (Kd.int .i64) w A1 l1.length l1) (hc1 : l1.length ≤ c1) (h : fleet_least_life.f k l0 l1 = some r) :
    Calls Try.prog 47 #[.slice A0 l0.length c0, .slice A1 l1.length c1, .func (.func 64) #[] #[]] w fun e w' => e = .returned (.int .i64 r) ∧ Below w.heap.size w w' := by
 have hu54 := Try.underlying54
 have HR0 := Aside0.mk hr0
 have HC0 := Aside0.mk hc0
 clear hr0 hc0
 have HR1 := Aside0.mk hr1
 have HC1 := Aside0.mk hc1
 clear hr1 hc1
 have HB := Aside0.mk (Below.refl w.heap.size w)
 have H : (if 0 < (l1.length : Int) then (if 0 ≤ (rd l1 0) then (if (rd l1 0) < (l0.length : Int) then ((fleet_life.f ((rd_T54 l0 (rd l1 0)).f0) ((rd_T54 l0 (rd l1 0)).f1) ((rd_T54 l0 (rd l1 0)).f2) ((rd_T54 l0 (rd l1 0)).f3) ((rd_T54 l0 (rd l1 0)).f4) ((rd_T54 l0 (rd l1 0)).f5) ((rd_T54 l0 (rd l1 0)).f6) ((rd_T54 l0 (rd l1 0)).f7) ((rd_T54 l0 (rd l1 0)).f8) ((rd_T54 l0 (rd l1 0)).f9) ((rd_T54 l0 (rd l1 0)).f10) ((rd_T54 l0 (rd l1 0)).f11) ((rd_T54 l0 (rd l1 0)).f12) ((rd_T54 l0 (rd l1 0)).f13)).bind fun t482 => (fleet_least_life.l0 k l0 t482 l1 (l1.length : Int) 0)) else (none)) else (none)) else (none)) = some r := h
 clear h
 by_cases c4 : 0 < (l1.length : Int)
 ·rw [if_pos c4] at H
  have c4b0 : decide (0 < (l1.length : Int)) = true := decide_eq_true c4
  have c4b1 : decide (0 < l1.length) = true := decide_eq_true (by omega)
  clear c4
  by_cases c5 : 0 ≤ (rd l1 0)
  ·rw [if_pos c5] at H
   have c5b0 : decide (0 ≤ (rd l1 0)) = true := decide_eq_true c5
   clear c5
   by_cases c6 : (rd l1 0) < (l0.length : Int)
   ·rw [if_pos c6] at H
    have c6b0 : decide ((rd l1 0) < (l0.length : Int)) = true := decide_eq_true c6
    clear c6
    replace H := Option.bind_eq_some_iff.mp H
    obtain ⟨t482, A70, H⟩ := H
    replace H : (fleet_least_life.l0 k l0 t482 l1 (l1.length : Int) 0) = some r := H
    have A7 := Aside0.mk A70
    clear A70
    have H' := Aside0.mk H
    clear H
    have p480 : 0 ≤ (0 : Int) := (by omega)
    have q480 : 0 < (l1.length : Int) := of_decide_eq_true tW_
    obtain ⟨ad480, e480, hx480_0⟩ := Kd.at_int HR1.out 0 p480 q480
    cases e480
    have qi480 : (0 < l1.length) = True := eq_true (by omega)
    (try rw [show ((0 : Int)).toNat = 0 from rfl] at hx480_0)
    (try rw [Addr.add_zero'] at hx480_0)
    replace p480 := eq_true p480
    replace q480 := eq_true q480
    have p481 : 0 ≤ ((rd l1 0) : Int) := of_decide_eq_true tW_
    have q481 : (rd l1 0) < (l0.length : Int) := of_decide_eq_true tW_
    obtain ⟨ad481, e481, hx481_0, hx481_1, hx481_2, hx481_3, hx481_4, hx481_5, hx481_6, hx481_7, hx481_8, hx481_9, hx481_10, hx481_11, hx481_12, hx481_13⟩ := at_T54 HR0.out (rd l1 0) p481 q481
    cases e481
    replace p481 := eq_true p481
    replace q481 := eq_true q481
    go_enter Try.func47, Try.ntmps47
    go_wp2_with (first | (go_at_call 64; (with_reducible refine (fleet_life.calls ((rd_T54 l0 (rd l1 0)).f0) ((rd_T54 l0 (rd l1 0)).f1) ((rd_T54 l0 (rd l1 0)).f2) ((rd_T54 l0 (rd l1 0)).f3) ((rd_T54 l0 (rd l1 0)).f4) ((rd_T54 l0 (rd l1 0)).f5) ((rd_T54 l0 (rd l1 0)).f6) ((rd_T54 l0 (rd l1 0)).f7) ((rd_T54 l0 (rd l1 0)).f8) ((rd_T54 l0 (rd l1 0)).f9) ((rd_T54 l0 (rd l1 0)).f10) ((rd_T54 l0 (rd l1 0)).f11) ((rd_T54 l0 (rd l1 0)).f12) ((rd_T54 l0 (rd l1 0)).f13) t482 _ A7.out).mono ?_); rintro e w8 ⟨rfl, hb⟩; replace HB := Aside0.mk (below_step (dL_ HB) hb)))
    go_loopg [7, 20] k (fun kq v7 v20 w' => ∃ (x7_1 : Int) (x20_1 : Int), v7 = .int .i64 x7_1 ∧ v20 = .int .i64 x20_1 ∧ Aside0 (fleet_least_life.l0 kq l0 x7_1 l1 (l1.length : Int) x20_1 = some r) ∧ Aside0 (kq ≤ k) ∧ Aside0 (Below w.heap.size w w'))
    case atStart => exact ⟨(t482), (0), tS_, tS_, H', ⟨Nat.le_refl _⟩, ⟨dL_ HB⟩⟩
    case round =>
     clear H'
     try clear c1
     try clear c4
     try clear c4b0
     try clear c4b1
     try clear c5
     try clear c5b0
     try clear c6
     try clear c6b0
     try clear hx480_0
     try clear hx481_0
     try clear hx481_1
     try clear hx481_10
     try clear hx481_11
     try clear hx481_12
     try clear hx481_13
     try clear hx481_2
     try clear hx481_3
     try clear hx481_4
     try clear hx481_5
     try clear hx481_6
     try clear hx481_7
     try clear hx481_8
     try clear hx481_9
     try clear p480
     try clear p481
     try clear q480
     try clear q481
     obtain ⟨x7_1, x20_1, rfl, rfl, HA, HK1, HB⟩ := hrel
     cases gk with
     | zero => exact absurd HA.out (by simp [fleet_least_life.l0])
     | succ k1 =>
      have H := HA.out
      clear HA
      simp only [fleet_least_life.l0] at H
      by_cases c9 : x20_1 < (l1.length : Int)
      ·rw [if_pos c9] at H
       have c9b0 : decide (x20_1 < (l1.length : Int)) = true := decide_eq_true c9
       clear c9
       by_cases c10 : 0 ≤ x20_1
       ·rw [if_pos c10] at H
        have c10b0 : decide (0 ≤ x20_1) = true := decide_eq_true c10
        clear c10
        by_cases c11 : x20_1 < (l1.length : Int)
        ·rw [if_pos c11] at H
         have c11b0 : decide (x20_1 < (l1.length : Int)) = true := decide_eq_true c11
         clear c11
         by_cases c12 : 0 ≤ (rd l1 x20_1)
         ·rw [if_pos c12] at H
          have c12b0 : decide (0 ≤ (rd l1 x20_1)) = true := decide_eq_true c12
          clear c12
          by_cases c13 : (rd l1 x20_1) < (l0.length : Int)
          ·rw [if_pos c13] at H
           have c13b0 : decide ((rd l1 x20_1) < (l0.length : Int)) = true := decide_eq_true c13
           clear c13
           replace H := Option.bind_eq_some_iff.mp H
           obtain ⟨t485, A140, H⟩ := H
           replace H : (fleet_least_life.l0 k1 l0 (mn x7_1 t485) l1 (l1.length : Int) (wrap64 (x20_1 + 1))) = some r := H
           have A14 := Aside0.mk A140
           clear A140
           obtain ⟨ji15, hji15⟩ : ∃ j_ : Int, (mn x7_1 t485) = j_ := ⟨_, rfl⟩
           replace H : (fleet_least_life.l0 k1 l0 ji15 l1 (l1.length : Int) (wrap64 (x20_1 + 1))) = some r := by first | (rw [hji15] at H; exact H) | (simp only [hji15] at H ⊢; exact H)
           (try rw [hji15] at A14)
           have hji15_ : (if t485 < x7_1 then t485 else x7_1) = ji15 := hji15
           have H' := Aside0.mk H
           clear H
           have p483 : 0 ≤ (x20_1 : Int) := of_decide_eq_true tW_
           have q483 : x20_1 < (l1.length : Int) := of_decide_eq_true tW_
           obtain ⟨ad483, e483, hx483_0⟩ := Kd.at_int HR1.out x20_1 p483 q483
           obtain rfl : ad480 = ad483 := (by injection e483)
           replace hx483_0 := bc_ HB hx483_0
           replace p483 := eq_true p483
           replace q483 := eq_true q483
           have p484 : 0 ≤ ((rd l1 x20_1) : Int) := of_decide_eq_true tW_
           have q484 : (rd l1 x20_1) < (l0.length : Int) := of_decide_eq_true tW_
           obtain ⟨ad484, e484, hx484_0, hx484_1, hx484_2, hx484_3, hx484_4, hx484_5, hx484_6, hx484_7, hx484_8, hx484_9, hx484_10, hx484_11, hx484_12, hx484_13⟩ := at_T54 HR0.out (rd l1 x20_1) p484 q484
           obtain rfl : ad481 = ad484 := (by injection e484)
           replace hx484_0 := bc_ HB hx484_0
           replace hx484_1 := bc_ HB hx484_1
           replace hx484_2 := bc_ HB hx484_2
           replace hx484_3 := bc_ HB hx484_3
           replace hx484_4 := bc_ HB hx484_4
           replace hx484_5 := bc_ HB hx484_5
           replace hx484_6 := bc_ HB hx484_6
           replace hx484_7 := bc_ HB hx484_7
           replace hx484_8 := bc_ HB hx484_8
           replace hx484_9 := bc_ HB hx484_9
           replace hx484_10 := bc_ HB hx484_10
           replace hx484_11 := bc_ HB hx484_11
           replace hx484_12 := bc_ HB hx484_12
           replace hx484_13 := bc_ HB hx484_13
           replace p484 := eq_true p484
           replace q484 := eq_true q484
           go_wp2_with (first | (go_at_call 64; (with_reducible refine (fleet_life.calls ((rd_T54 l0 (rd l1 x20_1)).f0) ((rd_T54 l0 (rd l1 x20_1)).f1) ((rd_T54 l0 (rd l1 x20_1)).f2) ((rd_T54 l0 (rd l1 x20_1)).f3) ((rd_T54 l0 (rd l1 x20_1)).f4) ((rd_T54 l0 (rd l1 x20_1)).f5) ((rd_T54 l0 (rd l1 x20_1)).f6) ((rd_T54 l0 (rd l1 x20_1)).f7) ((rd_T54 l0 (rd l1 x20_1)).f8) ((rd_T54 l0 (rd l1 x20_1)).f9) ((rd_T54 l0 (rd l1 x20_1)).f10) ((rd_T54 l0 (rd l1 x20_1)).f11) ((rd_T54 l0 (rd l1 x20_1)).f12) ((rd_T54 l0 (rd l1 x20_1)).f13) t485 _ A14.out).mono ?_); rintro e w16 ⟨rfl, hb⟩; replace HB := Aside0.mk (below_step (dL_ HB) hb)))
           go_roundg k1
           case measure => have := HK1.out; omega
           case rel => exact ⟨(ji15), (wrap64 (x20_1 + 1)), (by first | rfl | (simp; done) | (simp only [← hji15]; rw [shl_one_small _ (by assumption) (by omega)]; done) | (simp only [← hji15] <;> (first | rfl | simp)) | (simp [*]; done) | (refine congrArg (Value.int .i64) ?_; unfold wrap64; omega) | (simp only [shl_one_small _ (by assumption) (by omega)]; done) | (simp [*]; rw [shl_one_small _ (by assumption) (by omega)]; done)), tS_, H', ⟨by have := HK1.out; omega⟩, ⟨dL_ HB⟩⟩
          ·rw [if_neg c13] at H
           exact absurd H (by simp)
         ·rw [if_neg c12] at H
          exact absurd H (by simp)
        ·rw [if_neg c11] at H
         exact absurd H (by simp)
       ·rw [if_neg c10] at H
        exact absurd H (by simp)
      ·rw [if_neg c9] at H
       have c9b0 : decide (x20_1 < (l1.length : Int)) = false := decide_eq_false c9
       clear c9
       obtain rfl := Option.some.inj H
       go_wp2
       go_ret
       exact ⟨tE_, dL_ HB⟩
   ·rw [if_neg c6] at H
    exact absurd H (by simp)
  ·rw [if_neg c5] at H
   exact absurd H (by simp)
 ·rw [if_neg c4] at H
  exact absurd H (by simp)

end Go.Proofs.Ytgnahbjpockdmaa.Q
namespace Go.Proofs.Ytgnahbjpockdmaa.Q
open Go.RowKit Go.Proofs.YtgnahbjpockdmaaPrs Go.Proofs.YtgnahbjpockdmaaOwn Go.Proofs.YtgnahbjpockdmaaW.PrintWords Go.Proofs.YtgnahbjpockdmaaW.PrintLast Go.Proofs.YtgnahbjpockdmaaW.PrintMore
attribute [local go_sem] max2_int min2_int max_two min_two max_three min_three max_four min_four   -- for this text's walks alone
set_option linter.unusedVariables false
set_option linter.unusedSimpArgs false

/-! ### hinterlandref14_least: function 51 -/
def hinterlandref14_least.l0 : Nat → List (S54) → Int → Int → List Int → Int → Int → Option (Int × Int)
  | 0, _, _, _, _, _, _ => none
  | k + 1, x0, x6, x7, x10, x11, x12 => if x12 < x11 then (if 0 ≤ x12 then (if x12 < (x10.length : Int) then (if 0 ≤ (rd x10 x12) then (if (rd x10 x12) < (x0.length : Int) then (hinterlandref14_least.l0 k x0 (mn x6 ((rd_T54 x0 (rd x10 x12)).f12)) (mn x7 ((rd_T54 x0 (rd x10 x12)).f11)) x10 x11 (wrap64 (x12 + 1))) else (none)) else (none)) else (none)) else (none)) else (some (x6, x7))
def hinterlandref14_least.f (k : Nat) (l0 : List (S54)) (l1 : List Int) : Option (Int × Int) := hinterlandref14_least.l0 k l0 1000 100 l1 (l1.length : Int) 0
theorem hinterlandref14_least.mono_l : ∀ k, (∀ y0 y1 y2 y3 y4 y5, LeO (hinterlandref14_least.l0 k y0 y1 y2 y3 y4 y5) (hinterlandref14_least.l0 (k + 1) y0 y1 y2 y3 y4 y5))
  | 0 => fun _ _ _ _ _ _ r h => by simp [hinterlandref14_least.l0] at h
  | k + 1 => by
    have ih0 := hinterlandref14_least.mono_l k
    · intro y0 y1 y2 y3 y4 y5
      unfold hinterlandref14_least.l0
      repeat' first
      | (with_reducible first | exact ih0 _ _ _ _ _ _ | exact LeO.refl _ | exact LeO.none _ | refine LeO.ite ?_ ?_ | refine LeO.bind ?_ (fun _ => ?_))
      | exact ih0 _ _ _ _ _ _
      | exact LeO.none _
      | refine LeO.ite ?_ ?_
      | refine LeO.bind ?_ (fun _ => ?_)
theorem hinterlandref14_least.mono : ∀ a0 a1 k, LeO (hinterlandref14_least.f k a0 a1) (hinterlandref14_least.f (k + 1) a0 a1) := by
  intro a0 a1 k
  have ih0 := hinterlandref14_least.mono_l k
  unfold hinterlandref14_least.f
  repeat' first
      | (with_reducible first | exact ih0 _ _ _ _ _ _ | exact LeO.refl _ | exact LeO.none _ | refine LeO.ite ?_ ?_ | refine LeO.bind ?_ (fun _ => ?_))
      | exact ih0 _ _ _ _ _ _
      | exact LeO.none _
      | refine LeO.ite ?_ ?_
      | refine LeO.bind ?_ (fun _ => ?_)
set_option maxHeartbeats 8000000 in
set_option maxRecDepth 100000 in
theorem hinterlandref14_least.calls (k : Nat) (A0 : Option Addr) (c0 : Nat) (l0 : List (S54)) (A1 : Option Addr) (c1 : Nat) (l1 : List Int) (r1 : Int) (r2 : Int) (w : World) (hr0 : Kd.C k54 w A0 l0.length l0) (hc0 : l0.length ≤ c0) (hr1 : Kd.C (Kd.int .i64) w A1 l1.length l1) (hc1 : l1.length ≤ c1) (h : hinterlandref14_least.f k l0 l1 = some (r1, r2)) :
    Calls Try.prog 51 #[.slice A0 l0.length c0, .slice A1 l1.length c1] w fun e w' => e = .returned (.tuple #[.int .i64 r1, .int .i64 r2]) ∧ Below w.heap.size w w' := by
 have HR0 := Aside0.mk hr0
 have HC0 := Aside0.mk hc0
 clear hr0 hc0
 have HR1 := Aside0.mk hr1
 have HC1 := Aside0.mk hc1
 clear hr1 hc1
 have HB := Aside0.mk (Below.refl w.heap.size w)
 have H : (hinterlandref14_least.l0 k l0 1000 100 l1 (l1.length : Int) 0) = some (r1, r2) := h
 clear h
 have H' := Aside0.mk H
 clear H
 go_enter Try.func51, Try.ntmps51
 go_wp2
 repeat (go_quiet (fail); try go_wp2)
 go_loopg [6, 7, 12] k (fun kq v6 v7 v12 w' => ∃ (x6_1 : Int) (x7_1 : Int) (x12_1 : Int), v6 = .int .i64 x6_1 ∧ v7 = .int .i64 x7_1 ∧ v12 = .int .i64 x12_1 ∧ Aside0 (hinterlandref14_least.l0 kq l0 x6_1 x7_1 l1 (l1.length : Int) x12_1 = some (r1, r2)) ∧ Aside0 (kq ≤ k) ∧ Aside0 (Below w.heap.size w w'))
 case atStart => exact ⟨(1000), (100), (0), tS_, tS_, tS_, H', ⟨Nat.le_refl _⟩, ⟨dL_ HB⟩⟩
 case round =>
  clear H'
  try clear c1
  obtain ⟨x6_1, x7_1, x12_1, rfl, rfl, rfl, HA, HK1, HB⟩ := hrel
  cases gk with
  | zero => exact absurd HA.out (by simp [hinterlandref14_least.l0])
  | succ k1 =>
   have H := HA.out
   clear HA
   simp only [hinterlandref14_least.l0] at H
   by_cases c3 : x12_1 < (l1.length : Int)
   ·rw [if_pos c3] at H
    have c3b0 : decide (x12_1 < (l1.length : Int)) = true := decide_eq_true c3
    clear c3
    by_cases c4 : 0 ≤ x12_1
    ·rw [if_pos c4] at H
     have c4b0 : decide (0 ≤ x12_1) = true := decide_eq_true c4
     clear c4
     by_cases c5 : x12_1 < (l1.length : Int)
     ·rw [if_pos c5] at H
      have c5b0 : decide (x12_1 < (l1.length : Int)) = true := decide_eq_true c5
      clear c5
      by_cases c6 : 0 ≤ (rd l1 x12_1)
      ·rw [if_pos c6] at H
       have c6b0 : decide (0 ≤ (rd l1 x12_1)) = true := decide_eq_true c6
       clear c6
       by_cases c7 : (rd l1 x12_1) < (l0.length : Int)
       ·rw [if_pos c7] at H
        have c7b0 : decide ((rd l1 x12_1) < (l0.length : Int)) = true := decide_eq_true c7
        clear c7
        obtain ⟨ji8, hji8⟩ : ∃ j_ : Int, (mn x6_1 ((rd_T54 l0 (rd l1 x12_1)).f12)) = j_ := ⟨_, rfl⟩
        replace H : (hinterlandref14_least.l0 k1 l0 ji8 (mn x7_1 ((rd_T54 l0 (rd l1 x12_1)).f11)) l1 (l1.length : Int) (wrap64 (x12_1 + 1))) = some (r1, r2) := by first | (rw [hji8] at H; exact H) | (simp only [hji8] at H ⊢; exact H)
        have hji8_ : (if ((rd_T54 l0 (rd l1 x12_1)).f12) < x6_1 then ((rd_T54 l0 (rd l1 x12_1)).f12) else x6_1) = ji8 := hji8
        obtain ⟨ji9, hji9⟩ : ∃ j_ : Int, (mn x7_1 ((rd_T54 l0 (rd l1 x12_1)).f11)) = j_ := ⟨_, rfl⟩
        replace H : (hinterlandref14_least.l0 k1 l0 ji8 ji9 l1 (l1.length : Int) (wrap64 (x12_1 + 1))) = some (r1, r2) := by first | (rw [hji9] at H; exact H) | (simp only [hji9] at H ⊢; exact H)
        have hji9_ : (if ((rd_T54 l0 (rd l1 x12_1)).f11) < x7_1 then ((rd_T54 l0 (rd l1 x12_1)).f11) else x7_1) = ji9 := hji9
        have H' := Aside0.mk H
        clear H
        have p510 : 0 ≤ (x12_1 : Int) := of_decide_eq_true tW_
        have q510 : x12_1 < (l1.length : Int) := of_decide_eq_true tW_
        obtain ⟨ad510, e510, hx510_0⟩ := Kd.at_int HR1.out x12_1 p510 q510
        cases e510
        replace hx510_0 := bc_ HB hx510_0
        replace p510 := eq_true p510
        replace q510 := eq_true q510
        have p511 : 0 ≤ ((rd l1 x12_1) : Int) := of_decide_eq_true tW_
        have q511 : (rd l1 x12_1) < (l0.length : Int) := of_decide_eq_true tW_
        obtain ⟨ad511, e511, hx511_0, hx511_1, hx511_2, hx511_3, hx511_4, hx511_5, hx511_6, hx511_7, hx511_8, hx511_9, hx511_10, hx511_11, hx511_12, hx511_13⟩ := at_T54 HR0.out (rd l1 x12_1) p511 q511
        cases e511
        replace hx511_0 := bc_ HB hx511_0
        replace hx511_1 := bc_ HB hx511_1
        replace hx511_2 := bc_ HB hx511_2
        replace hx511_3 := bc_ HB hx511_3
        replace hx511_4 := bc_ HB hx511_4
        replace hx511_5 := bc_ HB hx511_5
        replace hx511_6 := bc_ HB hx511_6
        replace hx511_7 := bc_ HB hx511_7
        replace hx511_8 := bc_ HB hx511_8
        replace hx511_9 := bc_ HB hx511_9
        replace hx511_10 := bc_ HB hx511_10
        replace hx511_11 := bc_ HB hx511_11
        replace hx511_12 := bc_ HB hx511_12
        replace hx511_13 := bc_ HB hx511_13
        replace p511 := eq_true p511
        replace q511 := eq_true q511
        have p512 : 0 ≤ ((rd l1 x12_1) : Int) := of_decide_eq_true tW_
        have q512 : (rd l1 x12_1) < (l0.length : Int) := of_decide_eq_true tW_
        obtain ⟨ad512, e512, hx512_0, hx512_1, hx512_2, hx512_3, hx512_4, hx512_5, hx512_6, hx512_7, hx512_8, hx512_9, hx512_10, hx512_11, hx512_12, hx512_13⟩ := at_T54 HR0.out (rd l1 x12_1) p512 q512
        obtain rfl : ad511 = ad512 := (by injection e512)
        replace hx512_0 := bc_ HB hx512_0
        replace hx512_1 := bc_ HB hx512_1
        replace hx512_2 := bc_ HB hx512_2
        replace hx512_3 := bc_ HB hx512_3
        replace hx512_4 := bc_ HB hx512_4
        replace hx512_5 := bc_ HB hx512_5
        replace hx512_6 := bc_ HB hx512_6
        replace hx512_7 := bc_ HB hx512_7
        replace hx512_8 := bc_ HB hx512_8
        replace hx512_9 := bc_ HB hx512_9
        replace hx512_10 := bc_ HB hx512_10
        replace hx512_11 := bc_ HB hx512_11
        replace hx512_12 := bc_ HB hx512_12
        replace hx512_13 := bc_ HB hx512_13
        replace p512 := eq_true p512
        replace q512 := eq_true q512
        go_wp2
        repeat (go_quiet (fail); try go_wp2)
        go_roundg k1
        case measure => have := HK1.out; omega
        case rel => exact ⟨(ji8), (ji9), (wrap64 (x12_1 + 1)), (by first | rfl | (simp; done) | (simp only [← hji8]; rw [shl_one_small _ (by assumption) (by omega)]; done) | (simp only [← hji8] <;> (first | rfl | simp)) | (simp [*]; done) | (refine congrArg (Value.int .i64) ?_; unfold wrap64; omega) | (simp only [shl_one_small _ (by assumption) (by omega)]; done) | (simp [*]; rw [shl_one_small _ (by assumption) (by omega)]; done)), (by first | rfl | (simp; done) | (simp only [← hji9]; rw [shl_one_small _ (by assumption) (by omega)]; done) | (simp only [← hji9] <;> (first | rfl | simp)) | (simp [*]; done) | (refine congrArg (Value.int .i64) ?_; unfold wrap64; omega) | (simp only [shl_one_small _ (by assumption) (by omega)]; done) | (simp [*]; rw [shl_one_small _ (by assumption) (by omega)]; done)), tS_, H', ⟨by have := HK1.out; omega⟩, ⟨dL_ HB⟩⟩
       ·rw [if_neg c7] at H
        exact absurd H (by simp)
      ·rw [if_neg c6] at H
       exact absurd H (by simp)
     ·rw [if_neg c5] at H
      exact absurd H (by simp)
    ·rw [if_neg c4] at H
     exact absurd H (by simp)
   ·rw [if_neg c3] at H
    have c3b0 : decide (x12_1 < (l1.length : Int)) = false := decide_eq_false c3
    clear c3
    simp only [Option.some.injEq, Prod.mk.injEq] at H
    obtain ⟨rfl, rfl⟩ := H
    go_wp2
    repeat (go_quiet (fail); try go_wp2)
    go_ret2
    exact ⟨tE_, dL_ HB⟩

end Go.Proofs.Ytgnahbjpockdmaa.Q
namespace Go.Proofs.Ytgnahbjpockdmaa.Q
open Go.RowKit Go.Proofs.YtgnahbjpockdmaaPrs Go.Proofs.YtgnahbjpockdmaaOwn Go.Proofs.YtgnahbjpockdmaaW.PrintWords Go.Proofs.YtgnahbjpockdmaaW.PrintLast Go.Proofs.YtgnahbjpockdmaaW.PrintMore
attribute [local go_sem] max2_int min2_int max_two min_two max_three min_three max_four min_four   -- for this text's walks alone
set_option linter.unusedVariables false
set_option linter.unusedSimpArgs false

/-! ### hinterlandsame_List_int: function 52 -/
def hinterlandsame_List_int.l0 : Nat → List Int → List Int → Int → Option (Bool)
  | 0, _, _, _ => none
  | k + 1, x0, x1, x5 => if x5 < (x0.length : Int) then (if 0 ≤ x5 then (if x5 < (x1.length : Int) then (if (rd x0 x5) = (rd x1 x5) then (hinterlandsame_List_int.l0 k x0 x1 (wrap64 (x5 + 1))) else (some false)) else (none)) else (none)) else (some true)
def hinterlandsame_List_int.f (k : Nat) (l0 : List Int) (l1 : List Int) : Option (Bool) := if (l0.length : Int) = (l1.length : Int) then (hinterlandsame_List_int.l0 k l0 l1 0) else (some false)
theorem hinterlandsame_List_int.mono_l : ∀ k, (∀ y0 y1 y2, LeO (hinterlandsame_List_int.l0 k y0 y1 y2) (hinterlandsame_List_int.l0 (k + 1) y0 y1 y2))
  | 0 => fun _ _ _ r h => by simp [hinterlandsame_List_int.l0] at h
  | k + 1 => by
    have ih0 := hinterlandsame_List_int.mono_l k
    · intro y0 y1 y2
      unfold hinterlandsame_List_int.l0
      repeat' first
      | (with_reducible first | exact ih0 _ _ _ | exact LeO.refl _ | exact LeO.none _ | refine LeO.ite ?_ ?_ | refine LeO.bind ?_ (fun _ => ?_))
      | exact ih0 _ _ _
      | exact LeO.none _
      | refine LeO.ite ?_ ?_
      | refine LeO.bind ?_ (fun _ => ?_)
theorem hinterlandsame_List_int.mono : ∀ a0 a1 k, LeO (hinterlandsame_List_int.f k a0 a1) (hinterlandsame_List_int.f (k + 1) a0 a1) := by
  intro a0 a1 k
  have ih0 := hinterlandsame_List_int.mono_l k
  unfold hinterlandsame_List_int.f
  repeat' first
      | (with_reducible first | exact ih0 _ _ _ | exact LeO.refl _ | exact LeO.none _ | refine LeO.ite ?_ ?_ | refine LeO.bind ?_ (fun _ => ?_))
      | exact ih0 _ _ _
      | exact LeO.none _
      | refine LeO.ite ?_ ?_
      | refine LeO.bind ?_ (fun _ => ?_)
set_option maxHeartbeats 8000000 in
set_option maxRecDepth 100000 in
theorem hinterlandsame_List_int.calls (k : Nat) (A0 : Option Addr) (c0 : Nat) (l0 : List Int) (A1 : Option Addr) (c1 : Nat) (l1 : List Int) (r : Bool) (w : World) (hr0 : Kd.C (Kd.int .i64) w A0 l0.length l0) (hc0 : l0.length ≤ c0) (hr1 : Kd.C (Kd.int .i64) w A1 l1.length l1) (hc1 : l1.length ≤ c1) (h : hinterlandsame_List_int.f k l0 l1 = some r) :
    Calls Try.prog 52 #[.slice A0 l0.length c0, .slice A1 l1.length c1] w fun e w' => e = .returned (.bool r) ∧ Drawn0 w w' := by
 have HR0 := Aside0.mk hr0
 have HC0 := Aside0.mk hc0
 clear hr0 hc0
 have HR1 := Aside0.mk hr1
 have HC1 := Aside0.mk hc1
 clear hr1 hc1
 have H : (if (l0.length : Int) = (l1.length : Int) then (hinterlandsame_List_int.l0 k l0 l1 0) else (some false)) = some r := h
 clear h
 by_cases c3 : (l0.length : Int) = (l1.length : Int)
 ·rw [if_pos c3] at H
  have c3b0 : ((l0.length : Int) == (l1.length : Int)) = true := beq_iff_eq.mpr c3
  have c3b1 : ((l0.length : Int) != (l1.length : Int)) = false := bne_eq_false_iff_eq.mpr c3
  have c3b2 : (l0.length == l1.length) = true := by first | simpa using c3 | (simp at c3 ⊢; omega)
  clear c3
  have H' := Aside0.mk H
  clear H
  go_enter Try.func52, Try.ntmps52
  go_wp2
  repeat (go_quiet (fail); try go_wp2)
  go_loopg [5] k (fun kq v5 w' => ∃ (x5_1 : Int), v5 = .int .i64 x5_1 ∧ Aside0 (hinterlandsame_List_int.l0 kq l0 l1 x5_1 = some r) ∧ Aside0 (kq ≤ k) ∧ Drawn0 w w')
  case atStart => exact ⟨(0), tS_, H', ⟨Nat.le_refl _⟩, by repeat (first | exact Drawn0.refl _ | apply Drawn0.step)⟩
  case round =>
   clear H'
   try clear c1
   try clear c3
   try clear c3b0
   try clear c3b1
   try clear c3b2
   obtain ⟨x5_1, rfl, HA, HK1, ⟨m1, rfl⟩⟩ := hrel
   cases gk with
   | zero => exact absurd HA.out (by simp [hinterlandsame_List_int.l0])
   | succ k1 =>
    have H := HA.out
    clear HA
    simp only [hinterlandsame_List_int.l0] at H
    by_cases c4 : x5_1 < (l0.length : Int)
    ·rw [if_pos c4] at H
     have c4b0 : decide (x5_1 < (l0.length : Int)) = true := decide_eq_true c4
     clear c4
     by_cases c5 : 0 ≤ x5_1
     ·rw [if_pos c5] at H
      have c5b0 : decide (0 ≤ x5_1) = true := decide_eq_true c5
      clear c5
      by_cases c6 : x5_1 < (l1.length : Int)
      ·rw [if_pos c6] at H
       have c6b0 : decide (x5_1 < (l1.length : Int)) = true := decide_eq_true c6
       clear c6
       by_cases c7 : (rd l0 x5_1) = (rd l1 x5_1)
       ·rw [if_pos c7] at H
        have c7b0 : ((rd l0 x5_1) == (rd l1 x5_1)) = true := beq_iff_eq.mpr c7
        have c7b1 : ((rd l0 x5_1) != (rd l1 x5_1)) = false := bne_eq_false_iff_eq.mpr c7
        clear c7
        have H' := Aside0.mk H
        clear H
        have p536 : 0 ≤ (x5_1 : Int) := of_decide_eq_true tW_
        have q536 : x5_1 < (l0.length : Int) := of_decide_eq_true tW_
        obtain ⟨ad536, e536, hx536_0⟩ := Kd.at_int HR0.out x5_1 p536 q536
        cases e536
        replace p536 := eq_true p536
        replace q536 := eq_true q536
        have p537 : 0 ≤ (x5_1 : Int) := of_decide_eq_true tW_
        have q537 : x5_1 < (l1.length : Int) := of_decide_eq_true tW_
        obtain ⟨ad537, e537, hx537_0⟩ := Kd.at_int HR1.out x5_1 p537 q537
        cases e537
        replace p537 := eq_true p537
        replace q537 := eq_true q537
        go_wp2
        repeat (go_quiet (fail); try go_wp2)
        go_roundg k1
        case measure => have := HK1.out; omega
        case rel => exact ⟨(wrap64 (x5_1 + 1)), tS_, H', ⟨by have := HK1.out; omega⟩, by repeat (first | exact Drawn0.refl _ | apply Drawn0.step)⟩
       ·rw [if_neg c7] at H
        have c7b0 : ((rd l0 x5_1) == (rd l1 x5_1)) = false := beq_eq_false_iff_ne.mpr c7
        have c7b1 : ((rd l0 x5_1) != (rd l1 x5_1)) = true := bne_iff_ne.mpr c7
        obtain rfl := Option.some.inj H
        have p536 : 0 ≤ (x5_1 : Int) := of_decide_eq_true tW_
        have q536 : x5_1 < (l0.length : Int) := of_decide_eq_true tW_
        obtain ⟨ad536, e536, hx536_0⟩ := Kd.at_int HR0.out x5_1 p536 q536
        cases e536
        replace p536 := eq_true p536
        replace q536 := eq_true q536
        have p537 : 0 ≤ (x5_1 : Int) := of_decide_eq_true tW_
        have q537 : x5_1 < (l1.length : Int) := of_decide_eq_true tW_
        obtain ⟨ad537, e537, hx537_0⟩ := Kd.at_int HR1.out x5_1 p537 q537
        cases e537
        replace p537 := eq_true p537
        replace q537 := eq_true q537
        go_wp2
        repeat (go_quiet (fail); try go_wp2)
        go_ret
        exact ⟨tS_, by repeat (first | exact Drawn0.refl _ | apply Drawn0.step)⟩
      ·rw [if_neg c6] at H
       exact absurd H (by simp)
     ·rw [if_neg c5] at H
      exact absurd H (by simp)
    ·rw [if_neg c4] at H
     have c4b0 : decide (x5_1 < (l0.length : Int)) = false := decide_eq_false c4
     clear c4
     obtain rfl := Option.some.inj H
     go_wp2
     repeat (go_quiet (fail); try go_wp2)
     go_ret
     exact ⟨tS_, by repeat (first | exact Drawn0.refl _ | apply Drawn0.step)⟩
 ·rw [if_neg c3] at H
  have c3b0 : ((l0.length : Int) == (l1.length : Int)) = false := beq_eq_false_iff_ne.mpr c3
  have c3b1 : ((l0.length : Int) != (l1.length : Int)) = true := bne_iff_ne.mpr c3
  have c3b2 : (l0.length == l1.length) = false := by first | simpa using c3 | (simp at c3 ⊢; omega)
  obtain rfl := Option.some.inj H
  go_enter Try.func52, Try.ntmps52
  go_wp2
  repeat (go_quiet (fail); try go_wp2)
  go_ret
  exact ⟨tS_, by repeat (first | exact Drawn0.refl _ | apply Drawn0.step)⟩

end Go.Proofs.Ytgnahbjpockdmaa.Q
namespace Go.Proofs.Ytgnahbjpockdmaa.Q
open Go.RowKit Go.Proofs.YtgnahbjpockdmaaPrs Go.Proofs.YtgnahbjpockdmaaOwn Go.Proofs.YtgnahbjpockdmaaW.PrintWords Go.Proofs.YtgnahbjpockdmaaW.PrintLast Go.Proofs.YtgnahbjpockdmaaW.PrintMore
attribute [local go_sem] max2_int min2_int max_two min_two max_three min_three max_four min_four   -- for this text's walks alone
set_option linter.unusedVariables false
set_option linter.unusedSimpArgs false

attribute [local go_sem high] eqA69
/-! ### api_Parcel: function 53 -/
def api_Parcel.l0 : Nat → List (S69) → List (S69) → Int → Option (Bool)
  | 0, _, _, _ => none
  | k + 1, x0, x1, x5 => if x5 < (x0.length : Int) then (if 0 ≤ x5 then (if x5 < (x1.length : Int) then (if (!(((rd_T69 x0 x5).f0) == ((rd_T69 x1 x5).f0)) || (!(((rd_T69 x0 x5).f1) == ((rd_T69 x1 x5).f1)) || (!(((rd_T69 x0 x5).f2) == ((rd_T69 x1 x5).f2)) || (!(((rd_T69 x0 x5).f3) == ((rd_T69 x1 x5).f3)) || (!(((rd_T69 x0 x5).f4) == ((rd_T69 x1 x5).f4)) || (!(((rd_T69 x0 x5).f5) == ((rd_T69 x1 x5).f5)))))))) = true then (some false) else (api_Parcel.l0 k x0 x1 (wrap64 (x5 + 1)))) else (none)) else (none)) else (some true)
def api_Parcel.f (k : Nat) (l0 : List (S69)) (l1 : List (S69)) : Option (Bool) := if (l0.length : Int) = (l1.length : Int) then (api_Parcel.l0 k l0 l1 0) else (some false)
theorem api_Parcel.mono_l : ∀ k, (∀ y0 y1 y2, LeO (api_Parcel.l0 k y0 y1 y2) (api_Parcel.l0 (k + 1) y0 y1 y2))
  | 0 => fun _ _ _ r h => by simp [api_Parcel.l0] at h
  | k + 1 => by
    have ih0 := api_Parcel.mono_l k
    · intro y0 y1 y2
      unfold api_Parcel.l0
      repeat' first
      | (with_reducible first | exact ih0 _ _ _ | exact LeO.refl _ | exact LeO.none _ | refine LeO.ite ?_ ?_ | refine LeO.bind ?_ (fun _ => ?_))
      | exact ih0 _ _ _
      | exact LeO.none _
      | refine LeO.ite ?_ ?_
      | refine LeO.bind ?_ (fun _ => ?_)
theorem api_Parcel.mono : ∀ a0 a1 k, LeO (api_Parcel.f k a0 a1) (api_Parcel.f (k + 1) a0 a1) := by
  intro a0 a1 k
  have ih0 := api_Parcel.mono_l k
  unfold api_Parcel.f
  repeat' first
      | (with_reducible first | exact ih0 _ _ _ | exact LeO.refl _ | exact LeO.none _ | refine LeO.ite ?_ ?_ | refine LeO.bind ?_ (fun _ => ?_))
      | exact ih0 _ _ _
      | exact LeO.none _
      | refine LeO.ite ?_ ?_
      | refine LeO.bind ?_ (fun _ => ?_)
set_option maxHeartbeats 8000000 in
set_option maxRecDepth 100000 in
theorem api_Parcel.calls (k : Nat) (A0 : Option Addr) (c0 : Nat) (l0 : List (S69)) (A1 : Option Addr) (c1 : Nat) (l1 : List (S69)) (r : Bool) (w : World) (hr0 : Kd.C k69 w A0 l0.length l0) (hc0 : l0.length ≤ c0) (hr1 : Kd.C k69 w A1 l1.length l1) (hc1 : l1.length ≤ c1) (h : api_Parcel.f k l0 l1 = some r) :
    Calls Try.prog 53 #[.slice A0 l0.length c0, .slice A1 l1.length c1] w fun e w' => e = .returned (.bool r) ∧ Drawn0 w w' := by
 have hu69 := Try.underlying69
 have HR0 := Aside0.mk hr0
 have HC0 := Aside0.mk hc0
 clear hr0 hc0
 have HR1 := Aside0.mk hr1
 have HC1 := Aside0.mk hc1
 clear hr1 hc1
 have H : (if (l0.length : Int) = (l1.length : Int) then (api_Parcel.l0 k l0 l1 0) else (some false)) = some r := h
 clear h
 by_cases c3 : (l0.length : Int) = (l1.length : Int)
 ·rw [if_pos c3] at H
  have c3b0 : ((l0.length : Int) == (l1.length : Int)) = true := beq_iff_eq.mpr c3
  have c3b1 : ((l0.length : Int) != (l1.length : Int)) = false := bne_eq_false_iff_eq.mpr c3
  have c3b2 : (l0.length == l1.length) = true := by first | simpa using c3 | (simp at c3 ⊢; omega)
  clear c3
  have H' := Aside0.mk H
  clear H
  go_enter Try.func53, Try.ntmps53
  go_wp2
  repeat (go_quiet (fail); try go_wp2)
  go_loopg [5] k (fun kq v5 w' => ∃ (x5_1 : Int), v5 = .int .i64 x5_1 ∧ Aside0 (api_Parcel.l0 kq l0 l1 x5_1 = some r) ∧ Aside0 (kq ≤ k) ∧ Drawn0 w w')
  case atStart => exact ⟨(0), tS_, H', ⟨Nat.le_refl _⟩, by repeat (first | exact Drawn0.refl _ | apply Drawn0.step)⟩
  case round =>
   clear H'
   try clear c1
   try clear c3
   try clear c3b0
   try clear c3b1
   try clear c3b2
   obtain ⟨x5_1, rfl, HA, HK1, ⟨m1, rfl⟩⟩ := hrel
   cases gk with
   | zero => exact absurd HA.out (by simp [api_Parcel.l0])
   | succ k1 =>
    have H := HA.out
    clear HA
    simp only [api_Parcel.l0] at H
    by_cases c4 : x5_1 < (l0.length : Int)
    ·rw [if_pos c4] at H
     have c4b0 : decide (x5_1 < (l0.length : Int)) = true := decide_eq_true c4
     clear c4
     by_cases c5 : 0 ≤ x5_1
     ·rw [if_pos c5] at H
      have c5b0 : decide (0 ≤ x5_1) = true := decide_eq_true c5
      clear c5
      by_cases c6 : x5_1 < (l1.length : Int)
      ·rw [if_pos c6] at H
       have c6b0 : decide (x5_1 < (l1.length : Int)) = true := decide_eq_true c6
       clear c6
       by_cases c7 : (!(((rd_T69 l0 x5_1).f0) == ((rd_T69 l1 x5_1).f0)) || (!(((rd_T69 l0 x5_1).f1) == ((rd_T69 l1 x5_1).f1)) || (!(((rd_T69 l0 x5_1).f2) == ((rd_T69 l1 x5_1).f2)) || (!(((rd_T69 l0 x5_1).f3) == ((rd_T69 l1 x5_1).f3)) || (!(((rd_T69 l0 x5_1).f4) == ((rd_T69 l1 x5_1).f4)) || (!(((rd_T69 l0 x5_1).f5) == ((rd_T69 l1 x5_1).f5)))))))) = true
       ·rw [if_pos c7] at H
        have c7b0 : (!(((rd_T69 l0 x5_1).f0) == ((rd_T69 l1 x5_1).f0)) || (!(((rd_T69 l0 x5_1).f1) == ((rd_T69 l1 x5_1).f1)) || (!(((rd_T69 l0 x5_1).f2) == ((rd_T69 l1 x5_1).f2)) || (!(((rd_T69 l0 x5_1).f3) == ((rd_T69 l1 x5_1).f3)) || (!(((rd_T69 l0 x5_1).f4) == ((rd_T69 l1 x5_1).f4)) || (!(((rd_T69 l0 x5_1).f5) == ((rd_T69 l1 x5_1).f5)))))))) = true := c7
        clear c7
        obtain rfl := Option.some.inj H
        have p538 : 0 ≤ (x5_1 : Int) := of_decide_eq_true tW_
        have q538 : x5_1 < (l0.length : Int) := of_decide_eq_true tW_
        obtain ⟨ad538, e538, hx538_0, hx538_1, hx538_2, hx538_3, hx538_4, hx538_5⟩ := at_T69 HR0.out x5_1 p538 q538
        cases e538
        replace p538 := eq_true p538
        replace q538 := eq_true q538
        have p539 : 0 ≤ (x5_1 : Int) := of_decide_eq_true tW_
        have q539 : x5_1 < (l1.length : Int) := of_decide_eq_true tW_
        obtain ⟨ad539, e539, hx539_0, hx539_1, hx539_2, hx539_3, hx539_4, hx539_5⟩ := at_T69 HR1.out x5_1 p539 q539
        cases e539
        replace p539 := eq_true p539
        replace q539 := eq_true q539
        go_wp2
        repeat (go_quiet (fail); try go_wp2)
        go_ret
        exact ⟨tS_, by repeat (first | exact Drawn0.refl _ | apply Drawn0.step)⟩
       ·rw [if_neg c7] at H
        have c7b0 : (!(((rd_T69 l0 x5_1).f0) == ((rd_T69 l1 x5_1).f0)) || (!(((rd_T69 l0 x5_1).f1) == ((rd_T69 l1 x5_1).f1)) || (!(((rd_T69 l0 x5_1).f2) == ((rd_T69 l1 x5_1).f2)) || (!(((rd_T69 l0 x5_1).f3) == ((rd_T69 l1 x5_1).f3)) || (!(((rd_T69 l0 x5_1).f4) == ((rd_T69 l1 x5_1).f4)) || (!(((rd_T69 l0 x5_1).f5) == ((rd_T69 l1 x5_1).f5)))))))) = false := by simpa using c7
        clear c7
        have H' := Aside0.mk H
        clear H
        have p538 : 0 ≤ (x5_1 : Int) := of_decide_eq_true tW_
        have q538 : x5_1 < (l0.length : Int) := of_decide_eq_true tW_
        obtain ⟨ad538, e538, hx538_0, hx538_1, hx538_2, hx538_3, hx538_4, hx538_5⟩ := at_T69 HR0.out x5_1 p538 q538
        cases e538
        replace p538 := eq_true p538
        replace q538 := eq_true q538
        have p539 : 0 ≤ (x5_1 : Int) := of_decide_eq_true tW_
        have q539 : x5_1 < (l1.length : Int) := of_decide_eq_true tW_
        obtain ⟨ad539, e539, hx539_0, hx539_1, hx539_2, hx539_3, hx539_4, hx539_5⟩ := at_T69 HR1.out x5_1 p539 q539
        cases e539
        replace p539 := eq_true p539
        replace q539 := eq_true q539
        go_wp2
        repeat (go_quiet (fail); try go_wp2)
        go_roundg k1
        case measure => have := HK1.out; omega
        case rel => exact ⟨(wrap64 (x5_1 + 1)), tS_, H', ⟨by have := HK1.out; omega⟩, by repeat (first | exact Drawn0.refl _ | apply Drawn0.step)⟩
      ·rw [if_neg c6] at H
       exact absurd H (by simp)
     ·rw [if_neg c5] at H
      exact absurd H (by simp)
    ·rw [if_neg c4] at H
     have c4b0 : decide (x5_1 < (l0.length : Int)) = false := decide_eq_false c4
     clear c4
     obtain rfl := Option.some.inj H
     go_wp2
     repeat (go_quiet (fail); try go_wp2)
     go_ret
     exact ⟨tS_, by repeat (first | exact Drawn0.refl _ | apply Drawn0.step)⟩
 ·rw [if_neg c3] at H
  have c3b0 : ((l0.length : Int) == (l1.length : Int)) = false := beq_eq_false_iff_ne.mpr c3
  have c3b1 : ((l0.length : Int) != (l1.length : Int)) = true := bne_iff_ne.mpr c3
  have c3b2 : (l0.length == l1.length) = false := by first | simpa using c3 | (simp at c3 ⊢; omega)
  obtain rfl := Option.some.inj H
  go_enter Try.func53, Try.ntmps53
  go_wp2
  repeat (go_quiet (fail); try go_wp2)
  go_ret
  exact ⟨tS_, by repeat (first | exact Drawn0.refl _ | apply Drawn0.step)⟩

end Go.Proofs.Ytgnahbjpockdmaa.Q
namespace Go.Proofs.Ytgnahbjpockdmaa.Q
open Go.RowKit Go.Proofs.YtgnahbjpockdmaaPrs Go.Proofs.YtgnahbjpockdmaaOwn Go.Proofs.YtgnahbjpockdmaaW.PrintWords Go.Proofs.YtgnahbjpockdmaaW.PrintLast Go.Proofs.YtgnahbjpockdmaaW.PrintMore
attribute [local go_sem] max2_int min2_int max_two min_two max_three min_three max_four min_four   -- for this text's walks alone
set_option linter.unusedVariables false
set_option linter.unusedSimpArgs false

/-! ### hinterlandsame_Car: function 33 -/
def hinterlandsame_Car.f (k : Nat) (l0_0 : List Int) (l0_1 : List Int) (a0_2 : Int) (a0_3 : Int) (a0_4 : Int) (a0_5 : Int) (l0_6 : List (S69)) (l1_0 : List Int) (l1_1 : List Int) (a1_2 : Int) (a1_3 : Int) (a1_4 : Int) (a1_5 : Int) (l1_6 : List (S69)) : Option (Bool) := (hinterlandsame_List_int.f k l0_0 l1_0).bind fun t542 => (if t542 = true then ((hinterlandsame_List_int.f k l0_1 l1_1).bind fun t543 => (if t543 = true then (if a0_2 = a1_2 then (if a0_3 = a1_3 then (if a0_4 = a1_4 then (if a0_5 = a1_5 then ((api_Parcel.f k l0_6 l1_6).bind fun t544 => (some t544)) else (some false)) else (some false)) else (some false)) else (some false)) else (some false))) else (some false))
theorem hinterlandsame_Car.mono : ∀ a0 a1 a2 a3 a4 a5 a6 a7 a8 a9 a10 a11 a12 a13 k, LeO (hinterlandsame_Car.f k a0 a1 a2 a3 a4 a5 a6 a7 a8 a9 a10 a11 a12 a13) (hinterlandsame_Car.f (k + 1) a0 a1 a2 a3 a4 a5 a6 a7 a8 a9 a10 a11 a12 a13) := by
  intro a0 a1 a2 a3 a4 a5 a6 a7 a8 a9 a10 a11 a12 a13 k
  unfold hinterlandsame_Car.f
  repeat' first
      | (with_reducible first | exact api_Parcel.mono _ _ _ | exact hinterlandsame_List_int.mono _ _ _ | exact LeO.refl _ | exact LeO.none _ | refine LeO.ite ?_ ?_ | refine LeO.bind ?_ (fun _ => ?_))
      | exact api_Parcel.mono _ _ _
      | exact hinterlandsame_List_int.mono _ _ _
      | exact LeO.none _
      | refine LeO.ite ?_ ?_
      | refine LeO.bind ?_ (fun _ => ?_)
set_option maxHeartbeats 8000000 in
set_option maxRecDepth 100000 in
theorem hinterlandsame_Car.calls (k : Nat) (A0_0 : Option Addr) (c0_0 : Nat) (l0_0 : List Int) (A0_1 : Option Addr) (c0_1 : Nat) (l0_1 : List Int) (a0_2 : Int) (a0_3 : Int) (a0_4 : Int) (a0_5 : Int) (A0_6 : Option Addr) (c0_6 : Nat) (l0_6 : List (S69)) (A1_0 : Option Addr) (c1_0 : Nat) (l1_0 : List Int) (A1_1 : Option Addr) (c1_1 : Nat) (l1_1 : List Int) (a1_2 : Int) (a1_3 : Int) (a1_4 : Int) (a1_5 : Int) (A1_6 : Option Addr) (c1_6 : Nat) (l1_6 : List (S69)) (r : Bool) (w : World) (hr0_0 : Kd.C (Kd.int .i64) w A0_0 l0_0.length l0_0) (hc0_0 : l0_0.length ≤ c0_0) (hr0_1 : Kd.C (Kd.int .i64) w A0_1 l0_1.length l0_1) (hc0_1 : l0_1.length ≤ c0_1) (hr0_6 : Kd.C k69 w A0_6 l0_6.length l0_6) (hc0_6 : l0_6.length ≤ c0_6) (hr1_0 : Kd.C (Kd.int .i64) w A1_0 l1_0.length l1_0) (hc1_0 : l1_0.length ≤ c1_0) (hr1_1 : Kd.C (Kd.int .i64) w A1_1 l1_1.length l1_1) (hc1_1 : l1_1.length ≤ c1_1) (hr1_6 : Kd.C k69 w A1_6 l1_6.length l1_6) (hc1_6 : l1_6.length ≤ c1_6) (h : hinterlandsame_Car.f k l0_0 l0_1 a0_2 a0_3 a0_4 a0_5 l0_6 l1_0 l1_1 a1_2 a1_3 a1_4 a1_5 l1_6 = some r) :
    Calls Try.prog 33 #[.agg #[.slice A0_0 l0_0.length c0_0, .slice A0_1 l0_1.length c0_1, .int .i64 a0_2, .int .i64 a0_3, .int .i64 a0_4, .int .i64 a0_5, .slice A0_6 l0_6.length c0_6], .agg #[.slice A1_0 l1_0.length c1_0, .slice A1_1 l1_1.length c1_1, .int .i64 a1_2, .int .i64 a1_3, .int .i64 a1_4, .int .i64 a1_5, .slice A1_6 l1_6.length c1_6]] w fun e w' => e = .returned (.bool r) ∧ Below w.heap.size w w' := by
 have hu27 := Try.underlying27
 have HR0_0 := Aside0.mk hr0_0
 have HC0_0 := Aside0.mk hc0_0
 clear hr0_0 hc0_0
 have HR0_1 := Aside0.mk hr0_1
 have HC0_1 := Aside0.mk hc0_1
 clear hr0_1 hc0_1
 have HR0_6 := Aside0.mk hr0_6
 have HC0_6 := Aside0.mk hc0_6
 clear hr0_6 hc0_6
 have HR1_0 := Aside0.mk hr1_0
 have HC1_0 := Aside0.mk hc1_0
 clear hr1_0 hc1_0
 have HR1_1 := Aside0.mk hr1_1
 have HC1_1 := Aside0.mk hc1_1
 clear hr1_1 hc1_1
 have HR1_6 := Aside0.mk hr1_6
 have HC1_6 := Aside0.mk hc1_6
 clear hr1_6 hc1_6
 have HB := Aside0.mk (Below.refl w.heap.size w)
 have H : ((hinterlandsame_List_int.f k l0_0 l1_0).bind fun t542 => (if t542 = true then ((hinterlandsame_List_int.f k l0_1 l1_1).bind fun t543 => (if t543 = true then (if a0_2 = a1_2 then (if a0_3 = a1_3 then (if a0_4 = a1_4 then (if a0_5 = a1_5 then ((api_Parcel.f k l0_6 l1_6).bind fun t544 => (some t544)) else (some false)) else (some false)) else (some false)) else (some false)) else (some false))) else (some false))) = some r := h
 clear h
 replace H := Option.bind_eq_some_iff.mp H
 obtain ⟨t542, A30, H⟩ := H
 replace H : (if t542 = true then ((hinterlandsame_List_int.f k l0_1 l1_1).bind fun t543 => (if t543 = true then (if a0_2 = a1_2 then (if a0_3 = a1_3 then (if a0_4 = a1_4 then (if a0_5 = a1_5 then ((api_Parcel.f k l0_6 l1_6).bind fun t544 => (some t544)) else (some false)) else (some false)) else (some false)) else (some false)) else (some false))) else (some false)) = some r := H
 have A3 := Aside0.mk A30
 clear A30
 by_cases c4 : t542 = true
 ·subst c4
  have H1 : ((hinterlandsame_List_int.f k l0_1 l1_1).bind fun t543 => (if t543 = true then (if a0_2 = a1_2 then (if a0_3 = a1_3 then (if a0_4 = a1_4 then (if a0_5 = a1_5 then ((api_Parcel.f k l0_6 l1_6).bind fun t544 => (some t544)) else (some false)) else (some false)) else (some false)) else (some false)) else (some false))) = some r := by rw [if_pos rfl] at H; exact H
  clear H
  have H := H1
  clear H1
  replace H := Option.bind_eq_some_iff.mp H
  obtain ⟨t543, A50, H⟩ := H
  replace H : (if t543 = true then (if a0_2 = a1_2 then (if a0_3 = a1_3 then (if a0_4 = a1_4 then (if a0_5 = a1_5 then ((api_Parcel.f k l0_6 l1_6).bind fun t544 => (some t544)) else (some false)) else (some false)) else (some false)) else (some false)) else (some false)) = some r := H
  have A5 := Aside0.mk A50
  clear A50
  by_cases c6 : t543 = true
  ·subst c6
   have H1 : (if a0_2 = a1_2 then (if a0_3 = a1_3 then (if a0_4 = a1_4 then (if a0_5 = a1_5 then ((api_Parcel.f k l0_6 l1_6).bind fun t544 => (some t544)) else (some false)) else (some false)) else (some false)) else (some false)) = some r := by rw [if_pos rfl] at H; exact H
   clear H
   have H := H1
   clear H1
   by_cases c7 : a0_2 = a1_2
   ·rw [if_pos c7] at H
    have c7b0 : (a0_2 == a1_2) = true := beq_iff_eq.mpr c7
    have c7b1 : (a0_2 != a1_2) = false := bne_eq_false_iff_eq.mpr c7
    clear c7
    by_cases c8 : a0_3 = a1_3
    ·rw [if_pos c8] at H
     have c8b0 : (a0_3 == a1_3) = true := beq_iff_eq.mpr c8
     have c8b1 : (a0_3 != a1_3) = false := bne_eq_false_iff_eq.mpr c8
     clear c8
     by_cases c9 : a0_4 = a1_4
     ·rw [if_pos c9] at H
      have c9b0 : (a0_4 == a1_4) = true := beq_iff_eq.mpr c9
      have c9b1 : (a0_4 != a1_4) = false := bne_eq_false_iff_eq.mpr c9
      clear c9
      by_cases c10 : a0_5 = a1_5
      ·rw [if_pos c10] at H
       have c10b0 : (a0_5 == a1_5) = true := beq_iff_eq.mpr c10
       have c10b1 : (a0_5 != a1_5) = false := bne_eq_false_iff_eq.mpr c10
       clear c10
       replace H := Option.bind_eq_some_iff.mp H
       obtain ⟨t544, A110, H⟩ := H
       replace H : (some t544) = some r := H
       have A11 := Aside0.mk A110
       clear A110
       obtain rfl := Option.some.inj H
       go_enter Try.func33, Try.ntmps33
       go_wp2_with (first | ((with_reducible refine gate_dst (N := 2) rfl ?_); refine box_event ?hg (N := 2) ?hd (cs := #[.slice A0_0 l0_0.length c0_0, .slice A0_1 l0_1.length c0_1, .int .i64 a0_2, .int .i64 a0_3, .int .i64 a0_4, .int .i64 a0_5, .slice A0_6 l0_6.length c0_6]) (t := 27) ?hr ?_; (case hd => rfl); (case hg => rfl); (case hr => first | (go_simp; done) | (go_simp; rfl)); intro gb540 hg w12 hbox hb; have BK540 := Aside0.mk (hbox); have GW540 := Aside0.mk ((dS_ hg (dL_ HB) : w.heap.size ≤ gb540)); have GE540 := Aside0.mk ((dS_ hg (dL_ HB) : w.heap.size ≤ gb540)); replace HB := Aside0.mk (below_step (dL_ HB) hb); clear hb hbox hg) | ((with_reducible refine gate_dst (N := 3) rfl ?_); refine box_event ?hg (N := 3) ?hd (cs := #[.slice A1_0 l1_0.length c1_0, .slice A1_1 l1_1.length c1_1, .int .i64 a1_2, .int .i64 a1_3, .int .i64 a1_4, .int .i64 a1_5, .slice A1_6 l1_6.length c1_6]) (t := 27) ?hr ?_; (case hd => rfl); (case hg => rfl); (case hr => first | (go_simp; done) | (go_simp; rfl)); intro gb541 hg w13 hbox hb; have BK541 := Aside0.mk (hbox); have GW541 := Aside0.mk ((dS_ hg (dL1_ HB GE540) : w.heap.size ≤ gb541)); have GE541 := Aside0.mk ((dS_ hg (dL1_ HB GE540) : w.heap.size ≤ gb541)); replace HB := Aside0.mk (below_step (dL1_ HB GE540) hb); have NB540_541 := Aside0.mk ((by rw [hg]; exact Nat.ne_of_lt (blk_lt (dB_ BK540)) : gb540 ≠ gb541)); have NB541_540 := Aside0.mk ((by rw [hg]; exact Nat.ne_of_gt (blk_lt (dB_ BK540)) : gb541 ≠ gb540)); replace BK540 := Aside0.mk (blk_below (g := gb540) (o := .cells #[.slice A0_0 l0_0.length c0_0, .slice A0_1 l0_1.length c0_1, .int .i64 a0_2, .int .i64 a0_3, .int .i64 a0_4, .int .i64 a0_5, .slice A0_6 l0_6.length c0_6] 27 (0, 0)) (dB_ BK540) hb); clear hb hbox hg; have hnb14 := NB540_541.out; have hnc14 := NB541_540.out; obtain ⟨hcz15_0, hcz15_1, hcz15_2, hcz15_3, hcz15_4, hcz15_5, hcz15_6, hfz15_0, hfz15_1, hfz15_2, hfz15_3, hfz15_4, hfz15_5, hfz15_6⟩ := cs7_ BK540.out; obtain ⟨hcz16_0, hcz16_1, hcz16_2, hcz16_3, hcz16_4, hcz16_5, hcz16_6, hfz16_0, hfz16_1, hfz16_2, hfz16_3, hfz16_4, hfz16_5, hfz16_6⟩ := cs7_ BK541.out) | ((with_reducible refine gate_callee (f := 52) rfl ?_); refine goesL_ (some 9) rfl rfl Try.func52 (by kernel_rfl) rfl #[.slice A0_0 l0_0.length c0_0, .slice A1_0 l1_0.length c1_0] rfl tA_ ?_; (with_reducible refine (hinterlandsame_List_int.calls k _ _ l0_0 _ _ l1_0 true _ ?side1 ?side2 ?side3 ?side4 A3.out).mono ?_); (case side1 => exact dC_ HR0_0 HB); (case side2 => exact HC0_0.out); (case side3 => exact dC_ HR1_0 HB); (case side4 => exact HC1_0.out); rintro e w' ⟨rfl, ⟨nd, rfl⟩⟩; refine ⟨_, rfl, ?_⟩) | (go_at_call 52; (with_reducible refine (hinterlandsame_List_int.calls k _ _ l0_1 _ _ l1_1 true _ ?side1 ?side2 ?side3 ?side4 A5.out).mono ?_); (case side1 => repeat (first | exact (Kd.C_below HR0_1.out (dL2_ HB GE540 GE541)) | (with_reducible refine Kd.C_alloc ?_ _) | (with_reducible refine Kd.C_drewN ?_ _) | (with_reducible refine Kd.C_drew ?_))); (case side2 => exact HC0_1.out); (case side3 => repeat (first | exact (Kd.C_below HR1_1.out (dL2_ HB GE540 GE541)) | (with_reducible refine Kd.C_alloc ?_ _) | (with_reducible refine Kd.C_drewN ?_ _) | (with_reducible refine Kd.C_drew ?_))); (case side4 => exact HC1_1.out); rintro e w' ⟨rfl, ⟨nd, rfl⟩⟩) | (go_at_call 53; (with_reducible refine (api_Parcel.calls k _ _ l0_6 _ _ l1_6 t544 _ ?side1 ?side2 ?side3 ?side4 A11.out).mono ?_); (case side1 => repeat (first | exact (Kd.C_below HR0_6.out (dL2_ HB GE540 GE541)) | (with_reducible refine Kd.C_alloc ?_ _) | (with_reducible refine Kd.C_drewN ?_ _) | (with_reducible refine Kd.C_drew ?_))); (case side2 => exact HC0_6.out); (case side3 => repeat (first | exact (Kd.C_below HR1_6.out (dL2_ HB GE540 GE541)) | (with_reducible refine Kd.C_alloc ?_ _) | (with_reducible refine Kd.C_drewN ?_ _) | (with_reducible refine Kd.C_drew ?_))); (case side4 => exact HC1_6.out); rintro e w' ⟨rfl, ⟨nd, rfl⟩⟩))
       go_ret
       exact ⟨tE_, dL2_ HB GE540 GE541⟩
      ·rw [if_neg c10] at H
       have c10b0 : (a0_5 == a1_5) = false := beq_eq_false_iff_ne.mpr c10
       have c10b1 : (a0_5 != a1_5) = true := bne_iff_ne.mpr c10
       obtain rfl := Option.some.inj H
       go_enter Try.func33, Try.ntmps33
       go_wp2_with (first | ((with_reducible refine gate_dst (N := 2) rfl ?_); refine box_event ?hg (N := 2) ?hd (cs := #[.slice A0_0 l0_0.length c0_0, .slice A0_1 l0_1.length c0_1, .int .i64 a0_2, .int .i64 a0_3, .int .i64 a0_4, .int .i64 a0_5, .slice A0_6 l0_6.length c0_6]) (t := 27) ?hr ?_; (case hd => rfl); (case hg => rfl); (case hr => first | (go_simp; done) | (go_simp; rfl)); intro gb540 hg w17 hbox hb; have BK540 := Aside0.mk (hbox); have GW540 := Aside0.mk ((dS_ hg (dL_ HB) : w.heap.size ≤ gb540)); have GE540 := Aside0.mk ((dS_ hg (dL_ HB) : w.heap.size ≤ gb540)); replace HB := Aside0.mk (below_step (dL_ HB) hb); clear hb hbox hg) | ((with_reducible refine gate_dst (N := 3) rfl ?_); refine box_event ?hg (N := 3) ?hd (cs := #[.slice A1_0 l1_0.length c1_0, .slice A1_1 l1_1.length c1_1, .int .i64 a1_2, .int .i64 a1_3, .int .i64 a1_4, .int .i64 a1_5, .slice A1_6 l1_6.length c1_6]) (t := 27) ?hr ?_; (case hd => rfl); (case hg => rfl); (case hr => first | (go_simp; done) | (go_simp; rfl)); intro gb541 hg w18 hbox hb; have BK541 := Aside0.mk (hbox); have GW541 := Aside0.mk ((dS_ hg (dL1_ HB GE540) : w.heap.size ≤ gb541)); have GE541 := Aside0.mk ((dS_ hg (dL1_ HB GE540) : w.heap.size ≤ gb541)); replace HB := Aside0.mk (below_step (dL1_ HB GE540) hb); have NB540_541 := Aside0.mk ((by rw [hg]; exact Nat.ne_of_lt (blk_lt (dB_ BK540)) : gb540 ≠ gb541)); have NB541_540 := Aside0.mk ((by rw [hg]; exact Nat.ne_of_gt (blk_lt (dB_ BK540)) : gb541 ≠ gb540)); replace BK540 := Aside0.mk (blk_below (g := gb540) (o := .cells #[.slice A0_0 l0_0.length c0_0, .slice A0_1 l0_1.length c0_1, .int .i64 a0_2, .int .i64 a0_3, .int .i64 a0_4, .int .i64 a0_5, .slice A0_6 l0_6.length c0_6] 27 (0, 0)) (dB_ BK540) hb); clear hb hbox hg; have hnb19 := NB540_541.out; have hnc19 := NB541_540.out; obtain ⟨hcz20_0, hcz20_1, hcz20_2, hcz20_3, hcz20_4, hcz20_5, hcz20_6, hfz20_0, hfz20_1, hfz20_2, hfz20_3, hfz20_4, hfz20_5, hfz20_6⟩ := cs7_ BK540.out; obtain ⟨hcz21_0, hcz21_1, hcz21_2, hcz21_3, hcz21_4, hcz21_5, hcz21_6, hfz21_0, hfz21_1, hfz21_2, hfz21_3, hfz21_4, hfz21_5, hfz21_6⟩ := cs7_ BK541.out) | ((with_reducible refine gate_callee (f := 52) rfl ?_); refine goesL_ (some 9) rfl rfl Try.func52 (by kernel_rfl) rfl #[.slice A0_0 l0_0.length c0_0, .slice A1_0 l1_0.length c1_0] rfl tA_ ?_; (with_reducible refine (hinterlandsame_List_int.calls k _ _ l0_0 _ _ l1_0 true _ ?side1 ?side2 ?side3 ?side4 A3.out).mono ?_); (case side1 => exact dC_ HR0_0 HB); (case side2 => exact HC0_0.out); (case side3 => exact dC_ HR1_0 HB); (case side4 => exact HC1_0.out); rintro e w' ⟨rfl, ⟨nd, rfl⟩⟩; refine ⟨_, rfl, ?_⟩) | (go_at_call 52; (with_reducible refine (hinterlandsame_List_int.calls k _ _ l0_1 _ _ l1_1 true _ ?side1 ?side2 ?side3 ?side4 A5.out).mono ?_); (case side1 => repeat (first | exact (Kd.C_below HR0_1.out (dL2_ HB GE540 GE541)) | (with_reducible refine Kd.C_alloc ?_ _) | (with_reducible refine Kd.C_drewN ?_ _) | (with_reducible refine Kd.C_drew ?_))); (case side2 => exact HC0_1.out); (case side3 => repeat (first | exact (Kd.C_below HR1_1.out (dL2_ HB GE540 GE541)) | (with_reducible refine Kd.C_alloc ?_ _) | (with_reducible refine Kd.C_drewN ?_ _) | (with_reducible refine Kd.C_drew ?_))); (case side4 => exact HC1_1.out); rintro e w' ⟨rfl, ⟨nd, rfl⟩⟩))
       go_ret
       exact ⟨tE_, dL2_ HB GE540 GE541⟩
     ·rw [if_neg c9] at H
      have c9b0 : (a0_4 == a1_4) = false := beq_eq_false_iff_ne.mpr c9
      have c9b1 : (a0_4 != a1_4) = true := bne_iff_ne.mpr c9
      obtain rfl := Option.some.inj H
      go_enter Try.func33, Try.ntmps33
      go_wp2_with (first | ((with_reducible refine gate_dst (N := 2) rfl ?_); refine box_event ?hg (N := 2) ?hd (cs := #[.slice A0_0 l0_0.length c0_0, .slice A0_1 l0_1.length c0_1, .int .i64 a0_2, .int .i64 a0_3, .int .i64 a0_4, .int .i64 a0_5, .slice A0_6 l0_6.length c0_6]) (t := 27) ?hr ?_; (case hd => rfl); (case hg => rfl); (case hr => first | (go_simp; done) | (go_simp; rfl)); intro gb540 hg w22 hbox hb; have BK540 := Aside0.mk (hbox); have GW540 := Aside0.mk ((dS_ hg (dL_ HB) : w.heap.size ≤ gb540)); have GE540 := Aside0.mk ((dS_ hg (dL_ HB) : w.heap.size ≤ gb540)); replace HB := Aside0.mk (below_step (dL_ HB) hb); clear hb hbox hg) | ((with_reducible refine gate_dst (N := 3) rfl ?_); refine box_event ?hg (N := 3) ?hd (cs := #[.slice A1_0 l1_0.length c1_0, .slice A1_1 l1_1.length c1_1, .int .i64 a1_2, .int .i64 a1_3, .int .i64 a1_4, .int .i64 a1_5, .slice A1_6 l1_6.length c1_6]) (t := 27) ?hr ?_; (case hd => rfl); (case hg => rfl); (case hr => first | (go_simp; done) | (go_simp; rfl)); intro gb541 hg w23 hbox hb; have BK541 := Aside0.mk (hbox); have GW541 := Aside0.mk ((dS_ hg (dL1_ HB GE540) : w.heap.size ≤ gb541)); have GE541 := Aside0.mk ((dS_ hg (dL1_ HB GE540) : w.heap.size ≤ gb541)); replace HB := Aside0.mk (below_step (dL1_ HB GE540) hb); have NB540_541 := Aside0.mk ((by rw [hg]; exact Nat.ne_of_lt (blk_lt (dB_ BK540)) : gb540 ≠ gb541)); have NB541_540 := Aside0.mk ((by rw [hg]; exact Nat.ne_of_gt (blk_lt (dB_ BK540)) : gb541 ≠ gb540)); replace BK540 := Aside0.mk (blk_below (g := gb540) (o := .cells #[.slice A0_0 l0_0.length c0_0, .slice A0_1 l0_1.length c0_1, .int .i64 a0_2, .int .i64 a0_3, .int .i64 a0_4, .int .i64 a0_5, .slice A0_6 l0_6.length c0_6] 27 (0, 0)) (dB_ BK540) hb); clear hb hbox hg; have hnb24 := NB540_541.out; have hnc24 := NB541_540.out; obtain ⟨hcz25_0, hcz25_1, hcz25_2, hcz25_3, hcz25_4, hcz25_5, hcz25_6, hfz25_0, hfz25_1, hfz25_2, hfz25_3, hfz25_4, hfz25_5, hfz25_6⟩ := cs7_ BK540.out; obtain ⟨hcz26_0, hcz26_1, hcz26_2, hcz26_3, hcz26_4, hcz26_5, hcz26_6, hfz26_0, hfz26_1, hfz26_2, hfz26_3, hfz26_4, hfz26_5, hfz26_6⟩ := cs7_ BK541.out) | ((with_reducible refine gate_callee (f := 52) rfl ?_); refine goesL_ (some 9) rfl rfl Try.func52 (by kernel_rfl) rfl #[.slice A0_0 l0_0.length c0_0, .slice A1_0 l1_0.length c1_0] rfl tA_ ?_; (with_reducible refine (hinterlandsame_List_int.calls k _ _ l0_0 _ _ l1_0 true _ ?side1 ?side2 ?side3 ?side4 A3.out).mono ?_); (case side1 => exact dC_ HR0_0 HB); (case side2 => exact HC0_0.out); (case side3 => exact dC_ HR1_0 HB); (case side4 => exact HC1_0.out); rintro e w' ⟨rfl, ⟨nd, rfl⟩⟩; refine ⟨_, rfl, ?_⟩) | (go_at_call 52; (with_reducible refine (hinterlandsame_List_int.calls k _ _ l0_1 _ _ l1_1 true _ ?side1 ?side2 ?side3 ?side4 A5.out).mono ?_); (case side1 => repeat (first | exact (Kd.C_below HR0_1.out (dL2_ HB GE540 GE541)) | (with_reducible refine Kd.C_alloc ?_ _) | (with_reducible refine Kd.C_drewN ?_ _) | (with_reducible refine Kd.C_drew ?_))); (case side2 => exact HC0_1.out); (case side3 => repeat (first | exact (Kd.C_below HR1_1.out (dL2_ HB GE540 GE541)) | (with_reducible refine Kd.C_alloc ?_ _) | (with_reducible refine Kd.C_drewN ?_ _) | (with_reducible refine Kd.C_drew ?_))); (case side4 => exact HC1_1.out); rintro e w' ⟨rfl, ⟨nd, rfl⟩⟩))
      go_ret
      exact ⟨tE_, dL2_ HB GE540 GE541⟩
    ·rw [if_neg c8] at H
     have c8b0 : (a0_3 == a1_3) = false := beq_eq_false_iff_ne.mpr c8
     have c8b1 : (a0_3 != a1_3) = true := bne_iff_ne.mpr c8
     obtain rfl := Option.some.inj H
     go_enter Try.func33, Try.ntmps33
     go_wp2_with (first | ((with_reducible refine gate_dst (N := 2) rfl ?_); refine box_event ?hg (N := 2) ?hd (cs := #[.slice A0_0 l0_0.length c0_0, .slice A0_1 l0_1.length c0_1, .int .i64 a0_2, .int .i64 a0_3, .int .i64 a0_4, .int .i64 a0_5, .slice A0_6 l0_6.length c0_6]) (t := 27) ?hr ?_; (case hd => rfl); (case hg => rfl); (case hr => first | (go_simp; done) | (go_simp; rfl)); intro gb540 hg w27 hbox hb; have BK540 := Aside0.mk (hbox); have GW540 := Aside0.mk ((dS_ hg (dL_ HB) : w.heap.size ≤ gb540)); have GE540 := Aside0.mk ((dS_ hg (dL_ HB) : w.heap.size ≤ gb540)); replace HB := Aside0.mk (below_step (dL_ HB) hb); clear hb hbox hg) | ((with_reducible refine gate_dst (N := 3) rfl ?_); refine box_event ?hg (N := 3) ?hd (cs := #[.slice A1_0 l1_0.length c1_0, .slice A1_1 l1_1.length c1_1, .int .i64 a1_2, .int .i64 a1_3, .int .i64 a1_4, .int .i64 a1_5, .slice A1_6 l1_6.length c1_6]) (t := 27) ?hr ?_; (case hd => rfl); (case hg => rfl); (case hr => first | (go_simp; done) | (go_simp; rfl)); intro gb541 hg w28 hbox hb; have BK541 := Aside0.mk (hbox); have GW541 := Aside0.mk ((dS_ hg (dL1_ HB GE540) : w.heap.size ≤ gb541)); have GE541 := Aside0.mk ((dS_ hg (dL1_ HB GE540) : w.heap.size ≤ gb541)); replace HB := Aside0.mk (below_step (dL1_ HB GE540) hb); have NB540_541 := Aside0.mk ((by rw [hg]; exact Nat.ne_of_lt (blk_lt (dB_ BK540)) : gb540 ≠ gb541)); have NB541_540 := Aside0.mk ((by rw [hg]; exact Nat.ne_of_gt (blk_lt (dB_ BK540)) : gb541 ≠ gb540)); replace BK540 := Aside0.mk (blk_below (g := gb540) (o := .cells #[.slice A0_0 l0_0.length c0_0, .slice A0_1 l0_1.length c0_1, .int .i64 a0_2, .int .i64 a0_3, .int .i64 a0_4, .int .i64 a0_5, .slice A0_6 l0_6.length c0_6] 27 (0, 0)) (dB_ BK540) hb); clear hb hbox hg; have hnb29 := NB540_541.out; have hnc29 := NB541_540.out; obtain ⟨hcz30_0, hcz30_1, hcz30_2, hcz30_3, hcz30_4, hcz30_5, hcz30_6, hfz30_0, hfz30_1, hfz30_2, hfz30_3, hfz30_4, hfz30_5, hfz30_6⟩ := cs7_ BK540.out; obtain ⟨hcz31_0, hcz31_1, hcz31_2, hcz31_3, hcz31_4, hcz31_5, hcz31_6, hfz31_0, hfz31_1, hfz31_2, hfz31_3, hfz31_4, hfz31_5, hfz31_6⟩ := cs7_ BK541.out) | ((with_reducible refine gate_callee (f := 52) rfl ?_); refine goesL_ (some 9) rfl rfl Try.func52 (by kernel_rfl) rfl #[.slice A0_0 l0_0.length c0_0, .slice A1_0 l1_0.length c1_0] rfl tA_ ?_; (with_reducible refine (hinterlandsame_List_int.calls k _ _ l0_0 _ _ l1_0 true _ ?side1 ?side2 ?side3 ?side4 A3.out).mono ?_); (case side1 => exact dC_ HR0_0 HB); (case side2 => exact HC0_0.out); (case side3 => exact dC_ HR1_0 HB); (case side4 => exact HC1_0.out); rintro e w' ⟨rfl, ⟨nd, rfl⟩⟩; refine ⟨_, rfl, ?_⟩) | (go_at_call 52; (with_reducible refine (hinterlandsame_List_int.calls k _ _ l0_1 _ _ l1_1 true _ ?side1 ?side2 ?side3 ?side4 A5.out).mono ?_); (case side1 => repeat (first | exact (Kd.C_below HR0_1.out (dL2_ HB GE540 GE541)) | (with_reducible refine Kd.C_alloc ?_ _) | (with_reducible refine Kd.C_drewN ?_ _) | (with_reducible refine Kd.C_drew ?_))); (case side2 => exact HC0_1.out); (case side3 => repeat (first | exact (Kd.C_below HR1_1.out (dL2_ HB GE540 GE541)) | (with_reducible refine Kd.C_alloc ?_ _) | (with_reducible refine Kd.C_drewN ?_ _) | (with_reducible refine Kd.C_drew ?_))); (case side4 => exact HC1_1.out); rintro e w' ⟨rfl, ⟨nd, rfl⟩⟩))
     go_ret
     exact ⟨tE_, dL2_ HB GE540 GE541⟩
   ·rw [if_neg c7] at H
    have c7b0 : (a0_2 == a1_2) = false := beq_eq_false_iff_ne.mpr c7
    have c7b1 : (a0_2 != a1_2) = true := bne_iff_ne.mpr c7
    obtain rfl := Option.some.inj H
    go_enter Try.func33, Try.ntmps33
    go_wp2_with (first | ((with_reducible refine gate_dst (N := 2) rfl ?_); refine box_event ?hg (N := 2) ?hd (cs := #[.slice A0_0 l0_0.length c0_0, .slice A0_1 l0_1.length c0_1, .int .i64 a0_2, .int .i64 a0_3, .int .i64 a0_4, .int .i64 a0_5, .slice A0_6 l0_6.length c0_6]) (t := 27) ?hr ?_; (case hd => rfl); (case hg => rfl); (case hr => first | (go_simp; done) | (go_simp; rfl)); intro gb540 hg w32 hbox hb; have BK540 := Aside0.mk (hbox); have GW540 := Aside0.mk ((dS_ hg (dL_ HB) : w.heap.size ≤ gb540)); have GE540 := Aside0.mk ((dS_ hg (dL_ HB) : w.heap.size ≤ gb540)); replace HB := Aside0.mk (below_step (dL_ HB) hb); clear hb hbox hg) | ((with_reducible refine gate_dst (N := 3) rfl ?_); refine box_event ?hg (N := 3) ?hd (cs := #[.slice A1_0 l1_0.length c1_0, .slice A1_1 l1_1.length c1_1, .int .i64 a1_2, .int .i64 a1_3, .int .i64 a1_4, .int .i64 a1_5, .slice A1_6 l1_6.length c1_6]) (t := 27) ?hr ?_; (case hd => rfl); (case hg => rfl); (case hr => first | (go_simp; done) | (go_simp; rfl)); intro gb541 hg w33 hbox hb; have BK541 := Aside0.mk (hbox); have GW541 := Aside0.mk ((dS_ hg (dL1_ HB GE540) : w.heap.size ≤ gb541)); have GE541 := Aside0.mk ((dS_ hg (dL1_ HB GE540) : w.heap.size ≤ gb541)); replace HB := Aside0.mk (below_step (dL1_ HB GE540) hb); have NB540_541 := Aside0.mk ((by rw [hg]; exact Nat.ne_of_lt (blk_lt (dB_ BK540)) : gb540 ≠ gb541)); have NB541_540 := Aside0.mk ((by rw [hg]; exact Nat.ne_of_gt (blk_lt (dB_ BK540)) : gb541 ≠ gb540)); replace BK540 := Aside0.mk (blk_below (g := gb540) (o := .cells #[.slice A0_0 l0_0.length c0_0, .slice A0_1 l0_1.length c0_1, .int .i64 a0_2, .int .i64 a0_3, .int .i64 a0_4, .int .i64 a0_5, .slice A0_6 l0_6.length c0_6] 27 (0, 0)) (dB_ BK540) hb); clear hb hbox hg; have hnb34 := NB540_541.out; have hnc34 := NB541_540.out; obtain ⟨hcz35_0, hcz35_1, hcz35_2, hcz35_3, hcz35_4, hcz35_5, hcz35_6, hfz35_0, hfz35_1, hfz35_2, hfz35_3, hfz35_4, hfz35_5, hfz35_6⟩ := cs7_ BK540.out; obtain ⟨hcz36_0, hcz36_1, hcz36_2, hcz36_3, hcz36_4, hcz36_5, hcz36_6, hfz36_0, hfz36_1, hfz36_2, hfz36_3, hfz36_4, hfz36_5, hfz36_6⟩ := cs7_ BK541.out) | ((with_reducible refine gate_callee (f := 52) rfl ?_); refine goesL_ (some 9) rfl rfl Try.func52 (by kernel_rfl) rfl #[.slice A0_0 l0_0.length c0_0, .slice A1_0 l1_0.length c1_0] rfl tA_ ?_; (with_reducible refine (hinterlandsame_List_int.calls k _ _ l0_0 _ _ l1_0 true _ ?side1 ?side2 ?side3 ?side4 A3.out).mono ?_); (case side1 => exact dC_ HR0_0 HB); (case side2 => exact HC0_0.out); (case side3 => exact dC_ HR1_0 HB); (case side4 => exact HC1_0.out); rintro e w' ⟨rfl, ⟨nd, rfl⟩⟩; refine ⟨_, rfl, ?_⟩) | (go_at_call 52; (with_reducible refine (hinterlandsame_List_int.calls k _ _ l0_1 _ _ l1_1 true _ ?side1 ?side2 ?side3 ?side4 A5.out).mono ?_); (case side1 => repeat (first | exact (Kd.C_below HR0_1.out (dL2_ HB GE540 GE541)) | (with_reducible refine Kd.C_alloc ?_ _) | (with_reducible refine Kd.C_drewN ?_ _) | (with_reducible refine Kd.C_drew ?_))); (case side2 => exact HC0_1.out); (case side3 => repeat (first | exact (Kd.C_below HR1_1.out (dL2_ HB GE540 GE541)) | (with_reducible refine Kd.C_alloc ?_ _) | (with_reducible refine Kd.C_drewN ?_ _) | (with_reducible refine Kd.C_drew ?_))); (case side4 => exact HC1_1.out); rintro e w' ⟨rfl, ⟨nd, rfl⟩⟩))
    go_ret
    exact ⟨tE_, dL2_ HB GE540 GE541⟩
  ·replace c6 := Bool.eq_false_iff.mpr c6
   subst c6
   have H1 : (some false) = some r := by rw [if_neg (show ¬ (false = true) by decide)] at H; exact H
   clear H
   have H := H1
   clear H1
   obtain rfl := Option.some.inj H
   go_enter Try.func33, Try.ntmps33
   go_wp2_with (first | ((with_reducible refine gate_dst (N := 2) rfl ?_); refine box_event ?hg (N := 2) ?hd (cs := #[.slice A0_0 l0_0.length c0_0, .slice A0_1 l0_1.length c0_1, .int .i64 a0_2, .int .i64 a0_3, .int .i64 a0_4, .int .i64 a0_5, .slice A0_6 l0_6.length c0_6]) (t := 27) ?hr ?_; (case hd => rfl); (case hg => rfl); (case hr => first | (go_simp; done) | (go_simp; rfl)); intro gb540 hg w37 hbox hb; have BK540 := Aside0.mk (hbox); have GW540 := Aside0.mk ((dS_ hg (dL_ HB) : w.heap.size ≤ gb540)); have GE540 := Aside0.mk ((dS_ hg (dL_ HB) : w.heap.size ≤ gb540)); replace HB := Aside0.mk (below_step (dL_ HB) hb); clear hb hbox hg) | ((with_reducible refine gate_dst (N := 3) rfl ?_); refine box_event ?hg (N := 3) ?hd (cs := #[.slice A1_0 l1_0.length c1_0, .slice A1_1 l1_1.length c1_1, .int .i64 a1_2, .int .i64 a1_3, .int .i64 a1_4, .int .i64 a1_5, .slice A1_6 l1_6.length c1_6]) (t := 27) ?hr ?_; (case hd => rfl); (case hg => rfl); (case hr => first | (go_simp; done) | (go_simp; rfl)); intro gb541 hg w38 hbox hb; have BK541 := Aside0.mk (hbox); have GW541 := Aside0.mk ((dS_ hg (dL1_ HB GE540) : w.heap.size ≤ gb541)); have GE541 := Aside0.mk ((dS_ hg (dL1_ HB GE540) : w.heap.size ≤ gb541)); replace HB := Aside0.mk (below_step (dL1_ HB GE540) hb); have NB540_541 := Aside0.mk ((by rw [hg]; exact Nat.ne_of_lt (blk_lt (dB_ BK540)) : gb540 ≠ gb541)); have NB541_540 := Aside0.mk ((by rw [hg]; exact Nat.ne_of_gt (blk_lt (dB_ BK540)) : gb541 ≠ gb540)); replace BK540 := Aside0.mk (blk_below (g := gb540) (o := .cells #[.slice A0_0 l0_0.length c0_0, .slice A0_1 l0_1.length c0_1, .int .i64 a0_2, .int .i64 a0_3, .int .i64 a0_4, .int .i64 a0_5, .slice A0_6 l0_6.length c0_6] 27 (0, 0)) (dB_ BK540) hb); clear hb hbox hg; have hnb39 := NB540_541.out; have hnc39 := NB541_540.out; obtain ⟨hcz40_0, hcz40_1, hcz40_2, hcz40_3, hcz40_4, hcz40_5, hcz40_6, hfz40_0, hfz40_1, hfz40_2, hfz40_3, hfz40_4, hfz40_5, hfz40_6⟩ := cs7_ BK540.out; obtain ⟨hcz41_0, hcz41_1, hcz41_2, hcz41_3, hcz41_4, hcz41_5, hcz41_6, hfz41_0, hfz41_1, hfz41_2, hfz41_3, hfz41_4, hfz41_5, hfz41_6⟩ := cs7_ BK541.out) | ((with_reducible refine gate_callee (f := 52) rfl ?_); refine goesL_ (some 9) rfl rfl Try.func52 (by kernel_rfl) rfl #[.slice A0_0 l0_0.length c0_0, .slice A1_0 l1_0.length c1_0] rfl tA_ ?_; (with_reducible refine (hinterlandsame_List_int.calls k _ _ l0_0 _ _ l1_0 true _ ?side1 ?side2 ?side3 ?side4 A3.out).mono ?_); (case side1 => exact dC_ HR0_0 HB); (case side2 => exact HC0_0.out); (case side3 => exact dC_ HR1_0 HB); (case side4 => exact HC1_0.out); rintro e w' ⟨rfl, ⟨nd, rfl⟩⟩; refine ⟨_, rfl, ?_⟩) | (go_at_call 52; (with_reducible refine (hinterlandsame_List_int.calls k _ _ l0_1 _ _ l1_1 false _ ?side1 ?side2 ?side3 ?side4 A5.out).mono ?_); (case side1 => repeat (first | exact (Kd.C_below HR0_1.out (dL2_ HB GE540 GE541)) | (with_reducible refine Kd.C_alloc ?_ _) | (with_reducible refine Kd.C_drewN ?_ _) | (with_reducible refine Kd.C_drew ?_))); (case side2 => exact HC0_1.out); (case side3 => repeat (first | exact (Kd.C_below HR1_1.out (dL2_ HB GE540 GE541)) | (with_reducible refine Kd.C_alloc ?_ _) | (with_reducible refine Kd.C_drewN ?_ _) | (with_reducible refine Kd.C_drew ?_))); (case side4 => exact HC1_1.out); rintro e w' ⟨rfl, ⟨nd, rfl⟩⟩))
   go_ret
   exact ⟨tE_, dL2_ HB GE540 GE541⟩
 ·replace c4 := Bool.eq_false_iff.mpr c4
  subst c4
  have H1 : (some false) = some r := by rw [if_neg (show ¬ (false = true) by decide)] at H; exact H
  clear H
  have H := H1
  clear H1
  obtain rfl := Option.some.inj H
  go_enter Try.func33, Try.ntmps33
  go_wp2_with (first | ((with_reducible refine gate_dst (N := 2) rfl ?_); refine box_event ?hg (N := 2) ?hd (cs := #[.slice A0_0 l0_0.length c0_0, .slice A0_1 l0_1.length c0_1, .int .i64 a0_2, .int .i64 a0_3, .int .i64 a0_4, .int .i64 a0_5, .slice A0_6 l0_6.length c0_6]) (t := 27) ?hr ?_; (case hd => rfl); (case hg => rfl); (case hr => first | (go_simp; done) | (go_simp; rfl)); intro gb540 hg w42 hbox hb; have BK540 := Aside0.mk (hbox); have GW540 := Aside0.mk ((dS_ hg (dL_ HB) : w.heap.size ≤ gb540)); have GE540 := Aside0.mk ((dS_ hg (dL_ HB) : w.heap.size ≤ gb540)); replace HB := Aside0.mk (below_step (dL_ HB) hb); clear hb hbox hg) | ((with_reducible refine gate_dst (N := 3) rfl ?_); refine box_event ?hg (N := 3) ?hd (cs := #[.slice A1_0 l1_0.length c1_0, .slice A1_1 l1_1.length c1_1, .int .i64 a1_2, .int .i64 a1_3, .int .i64 a1_4, .int .i64 a1_5, .slice A1_6 l1_6.length c1_6]) (t := 27) ?hr ?_; (case hd => rfl); (case hg => rfl); (case hr => first | (go_simp; done) | (go_simp; rfl)); intro gb541 hg w43 hbox hb; have BK541 := Aside0.mk (hbox); have GW541 := Aside0.mk ((dS_ hg (dL1_ HB GE540) : w.heap.size ≤ gb541)); have GE541 := Aside0.mk ((dS_ hg (dL1_ HB GE540) : w.heap.size ≤ gb541)); replace HB := Aside0.mk (below_step (dL1_ HB GE540) hb); have NB540_541 := Aside0.mk ((by rw [hg]; exact Nat.ne_of_lt (blk_lt (dB_ BK540)) : gb540 ≠ gb541)); have NB541_540 := Aside0.mk ((by rw [hg]; exact Nat.ne_of_gt (blk_lt (dB_ BK540)) : gb541 ≠ gb540)); replace BK540 := Aside0.mk (blk_below (g := gb540) (o := .cells #[.slice A0_0 l0_0.length c0_0, .slice A0_1 l0_1.length c0_1, .int .i64 a0_2, .int .i64 a0_3, .int .i64 a0_4, .int .i64 a0_5, .slice A0_6 l0_6.length c0_6] 27 (0, 0)) (dB_ BK540) hb); clear hb hbox hg; have hnb44 := NB540_541.out; have hnc44 := NB541_540.out; obtain ⟨hcz45_0, hcz45_1, hcz45_2, hcz45_3, hcz45_4, hcz45_5, hcz45_6, hfz45_0, hfz45_1, hfz45_2, hfz45_3, hfz45_4, hfz45_5, hfz45_6⟩ := cs7_ BK540.out; obtain ⟨hcz46_0, hcz46_1, hcz46_2, hcz46_3, hcz46_4, hcz46_5, hcz46_6, hfz46_0, hfz46_1, hfz46_2, hfz46_3, hfz46_4, hfz46_5, hfz46_6⟩ := cs7_ BK541.out) | ((with_reducible refine gate_callee (f := 52) rfl ?_); refine goesL_ (some 9) rfl rfl Try.func52 (by kernel_rfl) rfl #[.slice A0_0 l0_0.length c0_0, .slice A1_0 l1_0.length c1_0] rfl tA_ ?_; (with_reducible refine (hinterlandsame_List_int.calls k _ _ l0_0 _ _ l1_0 false _ ?side1 ?side2 ?side3 ?side4 A3.out).mono ?_); (case side1 => exact dC_ HR0_0 HB); (case side2 => exact HC0_0.out); (case side3 => exact dC_ HR1_0 HB); (case side4 => exact HC1_0.out); rintro e w' ⟨rfl, ⟨nd, rfl⟩⟩; refine ⟨_, rfl, ?_⟩))
  go_ret
  exact ⟨tE_, dL2_ HB GE540 GE541⟩

end Go.Proofs.Ytgnahbjpockdmaa.Q
namespace Go.Proofs.Ytgnahbjpockdmaa.Q
open Go.RowKit Go.Proofs.YtgnahbjpockdmaaPrs Go.Proofs.YtgnahbjpockdmaaOwn Go.Proofs.YtgnahbjpockdmaaW.PrintWords Go.Proofs.YtgnahbjpockdmaaW.PrintLast Go.Proofs.YtgnahbjpockdmaaW.PrintMore
open List renaming setIfInBounds_toArray → sI_, set_cons_zero → s0_, set_cons_succ → sS_
attribute [local go_sem] max2_int min2_int max_two min_two max_three min_three max_four min_four   -- for this text's walks alone
set_option linter.unusedVariables false
set_option linter.unusedSimpArgs false

/-! ### fleet_spans: function 55 -/
def fleet_spans.f (k : Nat) (l0 : List (S54)) (l1_0 : List Int) (l1_1 : List Int) (a1_2 : Int) (a1_3 : Int) (a1_4 : Int) (a1_5 : Int) (l1_6 : List (S69)) : Option (Int) := (fleet_least_life.f k l0 l1_0).bind fun t595 => (if (wrap64 (365 * t595)) = 0 then (none) else (some (wrap64 (Int.tdiv a1_2 (wrap64 (365 * t595))))))
theorem fleet_spans.mono : ∀ a0 a1 a2 a3 a4 a5 a6 a7 k, LeO (fleet_spans.f k a0 a1 a2 a3 a4 a5 a6 a7) (fleet_spans.f (k + 1) a0 a1 a2 a3 a4 a5 a6 a7) := by
  intro a0 a1 a2 a3 a4 a5 a6 a7 k
  unfold fleet_spans.f
  repeat' first
      | (with_reducible first | exact fleet_least_life.mono _ _ _ | exact LeO.refl _ | exact LeO.none _ | refine LeO.ite ?_ ?_ | refine LeO.bind ?_ (fun _ => ?_))
      | exact fleet_least_life.mono _ _ _
      | exact LeO.none _
      | refine LeO.ite ?_ ?_
      | refine LeO.bind ?_ (fun _ => ?_)
def fleet_spans.T1 : Bool × List (List Nat × List Nat) := (true, [([], []), ([0], [0]), ([], []), ([], []), ([3], [3]), ([2, 4], [2, 4]), ([5], [5]), ([1, 6], [1, 6]), ([7, 5, 0, 1, 2, 3, 4, 5, 6, 7], [7])])
def fleet_spans.B1 : List Nat := [0, 1, 0, 0, 8, 28, 60, 127, 255]
theorem fleet_spans.tab1 : rtab .any (opsOf Try.f55 1) = fleet_spans.T1 := by kernel_rfl
theorem fleet_spans.bits1 : waitsOk fleet_spans.T1.2 fleet_spans.B1 = true := by kernel_rfl
set_option maxHeartbeats 8000000 in
set_option maxRecDepth 100000 in
theorem fleet_spans.calls (k : Nat) (A0 : Option Addr) (c0 : Nat) (l0 : List (S54)) (A1_0 : Option Addr) (c1_0 : Nat) (l1_0 : List Int) (A1_1 : Option Addr) (c1_1 : Nat) (l1_1 : List Int) (a1_2 : Int) (a1_3 : Int) (a1_4 : Int) (a1_5 : Int) (A1_6 : Option Addr) (c1_6 : Nat) (l1_6 : List (S69)) (r : Int) (w : World) (hr0 : Kd.C k54 w A0 l0.length l0) (hc0 : l0.length ≤ c0) (hr1_0 : Kd.C (Kd.int .i64) w A1_0 l1_0.length l1_0) (hc1_0 : l1_0.length ≤ c1_0) (hr1_1 : Kd.C (Kd.int .i64) w A1_1 l1_1.length l1_1) (hc1_1 : l1_1.length ≤ c1_1) (hr1_6 : Kd.C k69 w A1_6 l1_6.length l1_6) (hc1_6 : l1_6.length ≤ c1_6) (h : fleet_spans.f k l0 l1_0 l1_1 a1_2 a1_3 a1_4 a1_5 l1_6 = some r) :
    Calls Try.prog 55 #[.slice A0 l0.length c0, .agg #[.slice A1_0 l1_0.length c1_0, .slice A1_1 l1_1.length c1_1, .int .i64 a1_2, .int .i64 a1_3, .int .i64 a1_4, .int .i64 a1_5, .slice A1_6 l1_6.length c1_6]] w fun e w' => e = .returned (.int .i64 r) ∧ Below w.heap.size w w' := by
 have hu27 := Try.underlying27
 have HR0 := Aside0.mk hr0
 have HC0 := Aside0.mk hc0
 clear hr0 hc0
 have HR1_0 := Aside0.mk hr1_0
 have HC1_0 := Aside0.mk hc1_0
 clear hr1_0 hc1_0
 have HR1_1 := Aside0.mk hr1_1
 have HC1_1 := Aside0.mk hc1_1
 clear hr1_1 hc1_1
 have HR1_6 := Aside0.mk hr1_6
 have HC1_6 := Aside0.mk hc1_6
 clear hr1_6 hc1_6
 have HB := Aside0.mk (Below.refl w.heap.size w)
 have H : ((fleet_least_life.f k l0 l1_0).bind fun t595 => (if (wrap64 (365 * t595)) = 0 then (none) else (some (wrap64 (Int.tdiv a1_2 (wrap64 (365 * t595))))))) = some r := h
 clear h
 replace H := Option.bind_eq_some_iff.mp H
 obtain ⟨t595, A30, H⟩ := H
 replace H : (if (wrap64 (365 * t595)) = 0 then (none) else (some (wrap64 (Int.tdiv a1_2 (wrap64 (365 * t595)))))) = some r := H
 have A3 := Aside0.mk A30
 clear A30
 by_cases c4 : (wrap64 (365 * t595)) = 0
 ·rw [if_pos c4] at H
  exact absurd H (by simp)
 ·rw [if_neg c4] at H
  have c4b0 : ((wrap64 (365 * t595)) == 0) = false := beq_eq_false_iff_ne.mpr c4
  have c4b1 : ((wrap64 (365 * t595)) != 0) = true := bne_iff_ne.mpr c4
  obtain rfl := Option.some.inj H
  go_enter Try.func55, Try.ntmps55
  try go_wp2_with (first | ((with_reducible refine gate_dst (N := 3) rfl ?_); refine box_event ?hg (N := 3) ?hd (cs := #[.slice A1_0 l1_0.length c1_0, .slice A1_1 l1_1.length c1_1, .int .i64 a1_2, .int .i64 a1_3, .int .i64 a1_4, .int .i64 a1_5, .slice A1_6 l1_6.length c1_6]) (t := 27) ?hr ?_; (case hd => rfl); (case hg => rfl); (case hr => first | (go_simp; done) | (go_simp; rfl)); intro gb594 hg w5 hbox hb; have BK594 := Aside0.mk (hbox); have GW594 := Aside0.mk ((dS_ hg (dL_ HB) : w.heap.size ≤ gb594)); have GE594 := Aside0.mk ((dS_ hg (dL_ HB) : w.heap.size ≤ gb594)); replace HB := Aside0.mk (below_step (dL_ HB) hb); clear hb hbox hg))
  replace BK594 := Aside0.mk (blk_drew BK594.out)
  replace HB := Aside0.mk (below_drew1 HB.out)
  refine start_ (n := 9) (S := fun w' => w'.cell? ⟨gb594, 0, none⟩ = some (.slice A1_0 l1_0.length c1_0) ∧ w'.cell? ⟨gb594, 1, none⟩ = some (.slice A1_1 l1_1.length c1_1) ∧ w'.cell? ⟨gb594, 2, none⟩ = some (.int .i64 a1_2) ∧ w'.cell? ⟨gb594, 3, none⟩ = some (.int .i64 a1_3) ∧ w'.cell? ⟨gb594, 4, none⟩ = some (.int .i64 a1_4) ∧ w'.cell? ⟨gb594, 5, none⟩ = some (.int .i64 a1_5) ∧ w'.cell? ⟨gb594, 6, none⟩ = some (.slice A1_6 l1_6.length c1_6)) (ds := []) #[false, false, false, false, false, false, false, false, false] (by kernel_rfl) rfl rfl ⟨(blk_cell BK594.out 0).trans rfl, (blk_cell BK594.out 1).trans rfl, (blk_cell BK594.out 2).trans rfl, (blk_cell BK594.out 3).trans rfl, (blk_cell BK594.out 4).trans rfl, (blk_cell BK594.out 5).trans rfl, (blk_cell BK594.out 6).trans rfl⟩ (fun hHeld => ?_); refine with_tabW fleet_spans.tab1 fleet_spans.bits1 (fun HT_ HW_ => ?_)
  generalize w5.drew = w6 at BK594 HB hHeld ⊢
  refine pure_ (i := 0) (N := some 5) (v := ?_) (a' := ?_) (bA 1 9) rfl rfl (any_of HT_.out (by kernel_rfl)) (fun _ _ _ h => h) (Or.inl ⟨by rfl, ?_⟩) ?_ ?_; rotate_left; (intro w'; go_simp; with_reducible rfl); rotate_left; (simp only [Act.put, sI_, s0_, sS_, i64_w, i32_w]; rfl)
  refine pure_ (i := 2) (N := some 7) (v := ?_) (a' := ?_) #[true, false, true, false, false, false, false, false, false] rfl rfl (any_of HT_.out (by kernel_rfl)) (fun _ _ _ h => h) (Or.inl ⟨by rfl, ?_⟩) ?_ ?_; rotate_left; (intro w'; go_simp; with_reducible rfl); rotate_left; (simp only [Act.put, sI_, s0_, sS_, i64_w, i32_w]; rfl)
  refine pure_ (i := 3) (N := some 8) (v := ?_) (a' := ?_) #[true, false, true, true, false, false, false, false, false] rfl rfl (any_of HT_.out (by kernel_rfl)) (fun _ _ _ h => h) (Or.inl ⟨by rfl, ?_⟩) ?_ ?_; rotate_left; (intro w'; go_simp; with_reducible rfl); rotate_left; (simp only [Act.put, sI_, s0_, sS_, i64_w, i32_w]; rfl)
  refine take_ (i := 1) (N := some 6) (v := ?_) (a' := ?_) (bA 4 9) rfl rfl (take_ofW HT_.out HW_.out (by kernel_rfl)) (fun _ _ _ h => h) (Or.inl ⟨by rfl, ?_⟩) hHeld ?_ ?_; rotate_left; (rintro w' ⟨s0, s1, s2, s3, s4, s5, s6⟩; go_simp; with_reducible rfl); rotate_left; (simp only [Act.put, sI_, s0_, sS_, i64_w, i32_w]; rfl)
  refine take_ (i := 4) (N := some 9) (v := ?_) (a' := ?_) (bA 5 9) rfl rfl (take_ofW HT_.out HW_.out (by kernel_rfl)) (fun _ _ _ h => h) (Or.inl ⟨by rfl, ?_⟩) hHeld ?_ ?_; rotate_left; (rintro w' ⟨s0, s1, s2, s3, s4, s5, s6⟩; go_simp; with_reducible rfl); rotate_left; (simp only [Act.put, sI_, s0_, sS_, i64_w, i32_w]; rfl)
  refine one_ (i := 5) (N := some 10) (bA 6 9) rfl rfl (one_of HT_.out (by kernel_rfl)) (by decide) (fun K hK => ?_)
  refine goes_ Try.func47 (by kernel_rfl) rfl #[.slice A0 l0.length c0, .slice A1_0 l1_0.length c1_0, .func (.func 64) #[] #[]] (by rfl) rfl rfl tA_ ?_
  with_reducible refine (fleet_least_life.calls k _ _ l0 _ _ l1_0 t595 _ ?side1 ?side2 ?side3 ?side4 A3.out).mono ?_
  (case side1 => exact dC_ HR0 HB)
  (case side2 => exact HC0.out)
  (case side3 => exact dC_ HR1_0 HB)
  (case side4 => exact HC1_0.out)
  rintro e w7 ⟨rfl, hb⟩
  refine ⟨_, rfl, ?_⟩
  replace BK594 := Aside0.mk (blk_below (g := gb594) (o := .cells #[.slice A1_0 l1_0.length c1_0, .slice A1_1 l1_1.length c1_1, .int .i64 a1_2, .int .i64 a1_3, .int .i64 a1_4, .int .i64 a1_5, .slice A1_6 l1_6.length c1_6] 27 (0, 0)) (dB_ BK594) hb)
  replace HB := Aside0.mk (below_step (dL1_ HB GE594) hb)
  (try clear hb)
  refine hK.out _ _ ⟨(blk_cell BK594.out 0).trans rfl, (blk_cell BK594.out 1).trans rfl, (blk_cell BK594.out 2).trans rfl, (blk_cell BK594.out 3).trans rfl, (blk_cell BK594.out 4).trans rfl, (blk_cell BK594.out 5).trans rfl, (blk_cell BK594.out 6).trans rfl⟩ (fun hHeld => ?_)
  clear hK K
  refine norm_ (a' := ?_) ?_ ?_
  rotate_left
  ·show Act.put _ (some 10) _ = _
   simp only [Act.put, sI_, s0_, sS_, i64_w, i32_w]
   rfl
  refine pure_ (i := 6) (N := some 11) (v := ?_) (a' := ?_) (bA 7 9) rfl rfl (any_of HT_.out (by kernel_rfl)) (fun _ _ _ h => h) (Or.inl ⟨by rfl, ?_⟩) ?_ ?_; rotate_left; (intro w'; go_simp; with_reducible rfl); rotate_left; (simp only [Act.put, sI_, s0_, sS_, i64_w, i32_w]; rfl)
  refine pure_ (i := 7) (N := some 12) (v := ?_) (a' := ?_) (bA 8 9) rfl rfl (any_of HT_.out (by kernel_rfl)) (fun _ _ _ h => h) (Or.inl ⟨by rfl, ?_⟩) ?_ ?_; rotate_left; (intro w'; go_simp; with_reducible rfl); rotate_left; (simp only [Act.put, sI_, s0_, sS_, i64_w, i32_w]; rfl)
  refine pure_ (i := 8) (N := some 4) (v := ?_) (a' := ?_) (bA 9 9) rfl rfl (any_of HT_.out (by kernel_rfl)) (fun _ _ _ h => h) (Or.inl ⟨by rfl, ?_⟩) ?_ ?_; rotate_left; (intro w'; go_simp; with_reducible rfl); rotate_left; (simp only [Act.put, sI_, s0_, sS_, i64_w, i32_w]; rfl)
  refine done_ (done_of HT_.out (by kernel_rfl)) ?_
  try go_wp2
  go_ret
  exact ⟨tE_, dL1_ HB GE594⟩

end Go.Proofs.Ytgnahbjpockdmaa.Q
