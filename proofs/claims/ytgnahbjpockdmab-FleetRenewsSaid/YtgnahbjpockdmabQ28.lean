-- PRINTED by print.py out of the translation. Not trusted: Lean checks it.
import Derived.Test.YtgnahbjpockdmabPrs
import Derived.Test.YtgnahbjpockdmabQ0
import Derived.Test.YtgnahbjpockdmabQ27
namespace Go.Proofs.Ytgnahbjpockdmab.Q
open Go.RowKit Go.Proofs.YtgnahbjpockdmabPrs Go.Proofs.YtgnahbjpockdmabOwn Go.Proofs.YtgnahbjpockdmabW.PrintWords Go.Proofs.YtgnahbjpockdmabW.PrintLast Go.Proofs.YtgnahbjpockdmabW.PrintMore
attribute [local go_sem] max2_int min2_int max_two min_two max_three min_three max_four min_four   -- for this text's walks alone
set_option linter.unusedVariables false
set_option linter.unusedSimpArgs false

/-! ### hinterlandref14_coupled: function 34 -/
mutual
def hinterlandref14_coupled.j0 : Nat → List (S52) → List Int → Bool → Option (Int)
  | 0, _, _, _ => none
  | k + 1, x0, x1, x23 => if x23 = true then (some 1) else (hinterlandref14_coupled.l0 k x0 x1 x1 (x1.length : Int) 0)
def hinterlandref14_coupled.l0 : Nat → List (S52) → List Int → List Int → Int → Int → Option (Int)
  | 0, _, _, _, _, _ => none
  | k + 1, x0, x1, x24, x25, x26 => if x26 < x25 then (if 0 ≤ x26 then (if x26 < (x24.length : Int) then (if (rd x24 x26) < 0 then (hinterlandref14_coupled.j2 k x0 x1 x24 x25 x26 true) else (hinterlandref14_coupled.j2 k x0 x1 x24 x25 x26 (decide ((rd x24 x26) ≥ (x0.length : Int))))) else (none)) else (none)) else (if 0 < (x1.length : Int) then (if 0 ≤ (rd x1 0) then (if (rd x1 0) < (x0.length : Int) then (hinterlandref14_coupled.l1 k x0 x1 ((rd_T52 x0 (rd x1 0)).f1) x1 (x1.length : Int) 0) else (none)) else (none)) else (none))
def hinterlandref14_coupled.j2 : Nat → List (S52) → List Int → List Int → Int → Int → Bool → Option (Int)
  | 0, _, _, _, _, _, _ => none
  | k + 1, x0, x1, x24, x25, x26, x37 => if x37 = true then (some 2) else (hinterlandref14_coupled.l0 k x0 x1 x24 x25 (wrap64 (x26 + 1)))
def hinterlandref14_coupled.l1 : Nat → List (S52) → List Int → Int → List Int → Int → Int → Option (Int)
  | 0, _, _, _, _, _, _ => none
  | k + 1, x0, x1, x8, x46, x47, x48 => if x48 < x47 then (if 0 ≤ x48 then (if x48 < (x46.length : Int) then (if 0 ≤ (rd x46 x48) then (if (rd x46 x48) < (x0.length : Int) then (if ((rd_T52 x0 (rd x46 x48)).f1) = x8 then (hinterlandref14_coupled.l1 k x0 x1 x8 x46 x47 (wrap64 (x48 + 1))) else (some 8)) else (none)) else (none)) else (none)) else (none)) else (if x8 = 0 then (if 0 < (x1.length : Int) then (if 0 ≤ (rd x1 0) then (if (rd x1 0) < (x0.length : Int) then (if ((rd_T52 x0 (rd x1 0)).f3) = 0 then (hinterlandref14_coupled.j4 k true) else (hinterlandref14_coupled.j4 k false)) else (none)) else (none)) else (none)) else (hinterlandref14_coupled.j4 k (decide ((x1.length : Int) > 1))))
def hinterlandref14_coupled.j4 : Nat → Bool → Option (Int)
  | 0, _ => none
  | k + 1, x80 => if x80 = true then (some 8) else (some 0)
end
def hinterlandref14_coupled.f (k : Nat) (l0 : List (S52)) (l1 : List Int) : Option (Int) := (hinterlandref14_ValidateModels.f k l0).bind fun t332 => (if t332 = 0 then (if (l1.length : Int) < 1 then (hinterlandref14_coupled.j0 k l0 l1 true) else (hinterlandref14_coupled.j0 k l0 l1 (decide ((l1.length : Int) > 10)))) else (some t332))
theorem hinterlandref14_coupled.mono_l : ∀ k, (∀ y0 y1 y2, LeO (hinterlandref14_coupled.j0 k y0 y1 y2) (hinterlandref14_coupled.j0 (k + 1) y0 y1 y2)) ∧ (∀ y0 y1 y2 y3 y4, LeO (hinterlandref14_coupled.l0 k y0 y1 y2 y3 y4) (hinterlandref14_coupled.l0 (k + 1) y0 y1 y2 y3 y4)) ∧ (∀ y0 y1 y2 y3 y4 y5, LeO (hinterlandref14_coupled.j2 k y0 y1 y2 y3 y4 y5) (hinterlandref14_coupled.j2 (k + 1) y0 y1 y2 y3 y4 y5)) ∧ (∀ y0 y1 y2 y3 y4 y5, LeO (hinterlandref14_coupled.l1 k y0 y1 y2 y3 y4 y5) (hinterlandref14_coupled.l1 (k + 1) y0 y1 y2 y3 y4 y5)) ∧ (∀ y0, LeO (hinterlandref14_coupled.j4 k y0) (hinterlandref14_coupled.j4 (k + 1) y0))
  | 0 => ⟨fun _ _ _ r h => by simp [hinterlandref14_coupled.j0] at h, fun _ _ _ _ _ r h => by simp [hinterlandref14_coupled.l0] at h, fun _ _ _ _ _ _ r h => by simp [hinterlandref14_coupled.j2] at h, fun _ _ _ _ _ _ r h => by simp [hinterlandref14_coupled.l1] at h, fun _ r h => by simp [hinterlandref14_coupled.j4] at h⟩
  | k + 1 => by
    obtain ⟨ih0, ih1, ih2, ih3, ih4⟩ := hinterlandref14_coupled.mono_l k; refine ⟨?_, ?_, ?_, ?_, ?_⟩
    · intro y0 y1 y2
      unfold hinterlandref14_coupled.j0
      repeat' first
      | (with_reducible first | apply ih0 | apply ih1 | apply ih2 | apply ih3 | apply ih4 | apply hinterlandref14_ValidateModels.mono | exact LeO.refl _ | exact LeO.none _ | refine LeO.ite ?_ ?_ | refine LeO.bind ?_ (fun _ => ?_))
    · intro y0 y1 y2 y3 y4
      unfold hinterlandref14_coupled.l0
      repeat' first
      | (with_reducible first | apply ih0 | apply ih1 | apply ih2 | apply ih3 | apply ih4 | apply hinterlandref14_ValidateModels.mono | exact LeO.refl _ | exact LeO.none _ | refine LeO.ite ?_ ?_ | refine LeO.bind ?_ (fun _ => ?_))
    · intro y0 y1 y2 y3 y4 y5
      unfold hinterlandref14_coupled.j2
      repeat' first
      | (with_reducible first | apply ih0 | apply ih1 | apply ih2 | apply ih3 | apply ih4 | apply hinterlandref14_ValidateModels.mono | exact LeO.refl _ | exact LeO.none _ | refine LeO.ite ?_ ?_ | refine LeO.bind ?_ (fun _ => ?_))
    · intro y0 y1 y2 y3 y4 y5
      unfold hinterlandref14_coupled.l1
      repeat' first
      | (with_reducible first | apply ih0 | apply ih1 | apply ih2 | apply ih3 | apply ih4 | apply hinterlandref14_ValidateModels.mono | exact LeO.refl _ | exact LeO.none _ | refine LeO.ite ?_ ?_ | refine LeO.bind ?_ (fun _ => ?_))
    · intro y0
      unfold hinterlandref14_coupled.j4
      repeat' first
      | (with_reducible first | apply ih0 | apply ih1 | apply ih2 | apply ih3 | apply ih4 | apply hinterlandref14_ValidateModels.mono | exact LeO.refl _ | exact LeO.none _ | refine LeO.ite ?_ ?_ | refine LeO.bind ?_ (fun _ => ?_))
theorem hinterlandref14_coupled.mono : ∀ a0 a1 k, LeO (hinterlandref14_coupled.f k a0 a1) (hinterlandref14_coupled.f (k + 1) a0 a1) := by
  intro a0 a1 k; obtain ⟨ih0, ih1, ih2, ih3, ih4⟩ := hinterlandref14_coupled.mono_l k
  unfold hinterlandref14_coupled.f
  repeat' first
      | (with_reducible first | apply ih0 | apply ih1 | apply ih2 | apply ih3 | apply ih4 | apply hinterlandref14_ValidateModels.mono | exact LeO.refl _ | exact LeO.none _ | refine LeO.ite ?_ ?_ | refine LeO.bind ?_ (fun _ => ?_))
set_option maxHeartbeats 8000000 in
set_option maxRecDepth 100000 in
theorem hinterlandref14_coupled.calls (k : Nat) (A0 : Option Addr) (c0 : Nat) (l0 : List (S52)) (A1 : Option Addr) (c1 : Nat) (l1 : List Int) (r : Int) (w : World) (hr0 : Kd.C k52 w A0 l0.length l0) (hc0 : l0.length ≤ c0) (hr1 : Kd.C (Kd.int .i64) w A1 l1.length l1) (hc1 : l1.length ≤ c1) (h : hinterlandref14_coupled.f k l0 l1 = some r) :
    Calls Try.prog 34 #[.slice A0 l0.length c0, .slice A1 l1.length c1] w fun e w' => e = .returned (.int .i64 r) ∧ Below w.heap.size w w' := by
 have HR0 := Aside0.mk hr0; have HC0 := Aside0.mk hc0; clear hr0 hc0; have HR1 := Aside0.mk hr1; have HC1 := Aside0.mk hc1; clear hr1 hc1; have HB := Aside0.mk (Below.refl w.heap.size w); have H : ((hinterlandref14_ValidateModels.f k l0).bind fun t332 => (if t332 = 0 then (if (l1.length : Int) < 1 then (hinterlandref14_coupled.j0 k l0 l1 true) else (hinterlandref14_coupled.j0 k l0 l1 (decide ((l1.length : Int) > 10)))) else (some t332))) = some r := h; clear h; replace H := Option.bind_eq_some_iff.mp H; obtain ⟨t332, A30, H⟩ := H; have A3 := Aside0.mk A30; clear A30
 by_cases c4 : t332 = 0
 ·rw [if_pos c4] at H; have c4b0 : (t332 == 0) = true := beq_iff_eq.mpr c4; have c4b1 : (t332 != 0) = false := bne_eq_false_iff_eq.mpr c4; clear c4; have HC5 := Aside0.mk H; clear H
  go_enter Try.func34, Try.ntmps34
  go_upto_region 4 with (first | ((with_reducible refine gate_callee (f := 44) rfl ?_); refine gL_ (some 12) Try.func44 #[.slice A0 l0.length c0] ?_ rfl; (with_reducible refine (hinterlandref14_ValidateModels.calls k _ _ l0 t332 _ ?side1 ?side2 A3.out).mono ?_); (case side1 => exact rC_ HR0.out); (case side2 => exact HC0.out); rintro e w6 ⟨rfl, hb⟩; refine ⟨_, rfl, ?_⟩; replace HB := Aside0.mk (below_step (dL_ HB) hb)))
  (try simp only [Act.put, List.setIfInBounds_toArray, List.set_cons_zero, List.set_cons_succ])
  go_cut [23] (fun v23 wc => ∃ (kq : Nat) (x23_4 : Bool), v23 = .bool x23_4 ∧ Aside0 (hinterlandref14_coupled.j0 kq l0 l1 x23_4 = some r) ∧ Aside0 (kq ≤ k) ∧ Aside0 (Below w.heap.size w wc))
  case first =>
   have H := HC5.out; clear HC5
   by_cases c7 : (l1.length : Int) < 1
   ·rw [if_pos c7] at H; have c7b0 : decide ((l1.length : Int) < 1) = true := decide_eq_true c7; have c7b1 : decide (l1.length < 1) = true := decide_eq_true (by omega); clear c7
    (first | rw [c7b0] | (simp only [i64_w, i32_w]; rw [c7b0]) | skip)
    have H' := Aside0.mk H; clear H; go_wp2
    go_meet
    case rel => exact ⟨_, (true), tS_, H', ⟨by first | omega | exact Nat.le_refl _⟩, ⟨dL_ HB⟩⟩
   ·rw [if_neg c7] at H; have c7b0 : decide ((l1.length : Int) < 1) = false := decide_eq_false c7; have c7b1 : decide (l1.length < 1) = false := decide_eq_false (by omega); clear c7
    (first | rw [c7b0] | (simp only [i64_w, i32_w]; rw [c7b0]) | skip)
    have H' := Aside0.mk H; clear H; go_wp2
    go_meet
    case rel => exact ⟨_, (decide ((l1.length : Int) > 10)), tS_, H', ⟨by first | omega | exact Nat.le_refl _⟩, ⟨dL_ HB⟩⟩
  case rest =>
   clear HC5; (try clear c1); (try clear c4); (try clear c4b0); (try clear c4b1); (try clear c7); obtain ⟨kq, x23_4, rfl, HA, HJ4, HB⟩ := hcut
   cases kq with
   | zero => exact absurd HA.out (by simp [hinterlandref14_coupled.j0])
   | succ kj4 =>
    have H := HA.out; clear HA; simp only [hinterlandref14_coupled.j0] at H
    by_cases c8 : x23_4 = true
    ·subst c8; rw [if_pos rfl] at H; obtain rfl := Option.some.inj H; go_wp2
     go_ret
     exact ⟨tE_, dL_ HB⟩
    ·replace c8 := Bool.eq_false_iff.mpr c8; subst c8; rw [if_neg (show ¬ (false = true) by decide)] at H; have H' := Aside0.mk H; clear H; go_wp2
     go_loopg [26] kj4 (fun kq v26 w' => ∃ (x26_2 : Int), v26 = .int .i64 x26_2 ∧ Aside0 (hinterlandref14_coupled.l0 kq l0 l1 l1 (l1.length : Int) x26_2 = some r) ∧ Aside0 (kq ≤ kj4) ∧ Aside0 (Below w.heap.size w w'))
     case atStart => exact ⟨(0), tS_, H', ⟨Nat.le_refl _⟩, ⟨dL_ HB⟩⟩
     case round =>
      clear H'; (try clear c1); (try clear c4); (try clear c4b0); (try clear c4b1); (try clear c7); (try clear c8); obtain ⟨x26_2, rfl, HA, HK2, HB⟩ := hrel
      cases gk with
      | zero => exact absurd HA.out (by simp [hinterlandref14_coupled.l0])
      | succ k2 =>
       have H := HA.out; clear HA; simp only [hinterlandref14_coupled.l0] at H
       by_cases c9 : x26_2 < (l1.length : Int)
       ·rw [if_pos c9] at H; have c9b0 : decide (x26_2 < (l1.length : Int)) = true := decide_eq_true c9; clear c9
        by_cases c10 : 0 ≤ x26_2
        ·rw [if_pos c10] at H; have c10b0 : decide (0 ≤ x26_2) = true := decide_eq_true c10; clear c10
         by_cases c11 : x26_2 < (l1.length : Int)
         ·rw [if_pos c11] at H; have c11b0 : decide (x26_2 < (l1.length : Int)) = true := decide_eq_true c11; clear c11; have HC12 := Aside0.mk H; clear H; have p333 : 0 ≤ (x26_2 : Int) := of_decide_eq_true tW_; have q333 : x26_2 < (l1.length : Int) := of_decide_eq_true tW_; obtain ⟨ad333, e333, hx333_0⟩ := Kd.at_int HR1.out x26_2 p333 q333; cases e333; replace hx333_0 := bc_ HB hx333_0; replace p333 := eq_true p333; replace q333 := eq_true q333
          go_upto_region 9 with (fail)
          go_cut [37] (fun v37 wc => ∃ (kq : Nat) (x37_11 : Bool), v37 = .bool x37_11 ∧ Aside0 (hinterlandref14_coupled.j2 kq l0 l1 l1 (l1.length : Int) x26_2 x37_11 = some r) ∧ Aside0 (kq ≤ k2) ∧ Aside0 (Below w.heap.size w wc))
          case first =>
           have H := HC12.out; clear HC12
           by_cases c13 : (rd l1 x26_2) < 0
           ·rw [if_pos c13] at H; have c13b0 : decide ((rd l1 x26_2) < 0) = true := decide_eq_true c13; clear c13
            (first | rw [c13b0] | (simp only [i64_w, i32_w]; rw [c13b0]) | skip)
            have H' := Aside0.mk H; clear H; go_wp2
            go_meet
            case rel => exact ⟨_, (true), tS_, H', ⟨by have := HJ4.out; have := HK2.out; first | omega | exact Nat.le_refl _⟩, ⟨dL_ HB⟩⟩
           ·rw [if_neg c13] at H; have c13b0 : decide ((rd l1 x26_2) < 0) = false := decide_eq_false c13; clear c13
            (first | rw [c13b0] | (simp only [i64_w, i32_w]; rw [c13b0]) | skip)
            have H' := Aside0.mk H; clear H; go_wp2
            go_meet
            case rel => exact ⟨_, (decide ((rd l1 x26_2) ≥ (l0.length : Int))), tS_, H', ⟨by have := HJ4.out; have := HK2.out; first | omega | exact Nat.le_refl _⟩, ⟨dL_ HB⟩⟩
          case rest =>
           clear HC12; (try clear c1); (try clear c4); (try clear c4b0); (try clear c4b1); (try clear c7); (try clear c8); (try clear c9); (try clear c9b0); (try clear c10); (try clear c10b0); (try clear c11); (try clear c11b0); (try clear c13); (try clear hx333_0); (try clear p333); (try clear q333); obtain ⟨kq, x37_11, rfl, HA, HJ11, HB⟩ := hcut
           cases kq with
           | zero => exact absurd HA.out (by simp [hinterlandref14_coupled.j2])
           | succ kj11 =>
            have H := HA.out; clear HA; simp only [hinterlandref14_coupled.j2] at H
            by_cases c14 : x37_11 = true
            ·subst c14; rw [if_pos rfl] at H; obtain rfl := Option.some.inj H; go_wp2
             go_ret
             exact ⟨tE_, dL_ HB⟩
            ·replace c14 := Bool.eq_false_iff.mpr c14; subst c14; rw [if_neg (show ¬ (false = true) by decide)] at H; have H' := Aside0.mk H; clear H; go_wp2
             go_roundg kj11
             case measure => have := HJ4.out; have := HK2.out; have := HJ11.out; omega
             case rel => exact ⟨(wrap64 (x26_2 + 1)), tS_, H', ⟨by have := HJ4.out; have := HK2.out; have := HJ11.out; omega⟩, ⟨dL_ HB⟩⟩
         ·rw [if_neg c11] at H; exact absurd H (by simp)
        ·rw [if_neg c10] at H; exact absurd H (by simp)
       ·rw [if_neg c9] at H; have c9b0 : decide (x26_2 < (l1.length : Int)) = false := decide_eq_false c9; clear c9
        by_cases c15 : 0 < (l1.length : Int)
        ·rw [if_pos c15] at H; have c15b0 : decide (0 < (l1.length : Int)) = true := decide_eq_true c15; have c15b1 : decide (0 < l1.length) = true := decide_eq_true (by omega); clear c15
         by_cases c16 : 0 ≤ (rd l1 0)
         ·rw [if_pos c16] at H; have c16b0 : decide (0 ≤ (rd l1 0)) = true := decide_eq_true c16; clear c16
          by_cases c17 : (rd l1 0) < (l0.length : Int)
          ·rw [if_pos c17] at H; have c17b0 : decide ((rd l1 0) < (l0.length : Int)) = true := decide_eq_true c17; clear c17; have H' := Aside0.mk H; clear H; have p334 : 0 ≤ (0 : Int) := (by omega); have q334 : 0 < (l1.length : Int) := of_decide_eq_true tW_; obtain ⟨ad334, e334, hx334_0⟩ := Kd.at_int HR1.out 0 p334 q334; cases e334; have qi334 : (0 < l1.length) = True := eq_true (by omega); (try rw [show ((0 : Int)).toNat = 0 from rfl] at hx334_0); (try rw [Addr.add_zero'] at hx334_0); replace hx334_0 := bc_ HB hx334_0; replace p334 := eq_true p334; replace q334 := eq_true q334; have p335 : 0 ≤ ((rd l1 0) : Int) := of_decide_eq_true tW_; have q335 : (rd l1 0) < (l0.length : Int) := of_decide_eq_true tW_; obtain ⟨ad335, e335, hx335_0, hx335_1, hx335_2, hx335_3, hx335_4, hx335_5, hx335_6, hx335_7, hx335_8, hx335_9, hx335_10, hx335_11, hx335_12, hx335_13⟩ := at_T52 HR0.out (rd l1 0) p335 q335; cases e335; replace hx335_0 := bc_ HB hx335_0; replace hx335_1 := bc_ HB hx335_1; replace hx335_2 := bc_ HB hx335_2; replace hx335_3 := bc_ HB hx335_3; replace hx335_4 := bc_ HB hx335_4; replace hx335_5 := bc_ HB hx335_5; replace hx335_6 := bc_ HB hx335_6; replace hx335_7 := bc_ HB hx335_7; replace hx335_8 := bc_ HB hx335_8; replace hx335_9 := bc_ HB hx335_9; replace hx335_10 := bc_ HB hx335_10; replace hx335_11 := bc_ HB hx335_11; replace hx335_12 := bc_ HB hx335_12; replace hx335_13 := bc_ HB hx335_13; replace p335 := eq_true p335; replace q335 := eq_true q335; go_wp2
           go_loopg [48] k2 (fun kq v48 w' => ∃ (x48_3 : Int), v48 = .int .i64 x48_3 ∧ Aside0 (hinterlandref14_coupled.l1 kq l0 l1 ((rd_T52 l0 (rd l1 0)).f1) l1 (l1.length : Int) x48_3 = some r) ∧ Aside0 (kq ≤ k2) ∧ Aside0 (Below w.heap.size w w'))
           case atStart => exact ⟨(0), tS_, H', ⟨Nat.le_refl _⟩, ⟨dL_ HB⟩⟩
           case round =>
            clear H'; (try clear c1); (try clear c4); (try clear c4b0); (try clear c4b1); (try clear c7); (try clear c8); (try clear c9); (try clear c9b0); (try clear c10); (try clear c11); (try clear c13); (try clear c15); (try clear c15b0); (try clear c15b1); (try clear c16); (try clear c16b0); (try clear c17); (try clear c17b0); (try clear hx334_0); (try clear hx335_0); (try clear hx335_1); (try clear hx335_10); (try clear hx335_11); (try clear hx335_12); (try clear hx335_13); (try clear hx335_2); (try clear hx335_3); (try clear hx335_4); (try clear hx335_5); (try clear hx335_6); (try clear hx335_7); (try clear hx335_8); (try clear hx335_9); (try clear p334); (try clear p335); (try clear q334); (try clear q335); obtain ⟨x48_3, rfl, HA, HK3, HB⟩ := hrel
            cases gk with
            | zero => exact absurd HA.out (by simp [hinterlandref14_coupled.l1])
            | succ k3 =>
             have H := HA.out; clear HA; simp only [hinterlandref14_coupled.l1] at H
             by_cases c18 : x48_3 < (l1.length : Int)
             ·rw [if_pos c18] at H; have c18b0 : decide (x48_3 < (l1.length : Int)) = true := decide_eq_true c18; clear c18
              by_cases c19 : 0 ≤ x48_3
              ·rw [if_pos c19] at H; have c19b0 : decide (0 ≤ x48_3) = true := decide_eq_true c19; clear c19
               by_cases c20 : x48_3 < (l1.length : Int)
               ·rw [if_pos c20] at H; have c20b0 : decide (x48_3 < (l1.length : Int)) = true := decide_eq_true c20; clear c20
                by_cases c21 : 0 ≤ (rd l1 x48_3)
                ·rw [if_pos c21] at H; have c21b0 : decide (0 ≤ (rd l1 x48_3)) = true := decide_eq_true c21; clear c21
                 by_cases c22 : (rd l1 x48_3) < (l0.length : Int)
                 ·rw [if_pos c22] at H; have c22b0 : decide ((rd l1 x48_3) < (l0.length : Int)) = true := decide_eq_true c22; clear c22
                  by_cases c23 : ((rd_T52 l0 (rd l1 x48_3)).f1) = ((rd_T52 l0 (rd l1 0)).f1)
                  ·rw [if_pos c23] at H; have c23b0 : (((rd_T52 l0 (rd l1 x48_3)).f1) == ((rd_T52 l0 (rd l1 0)).f1)) = true := beq_iff_eq.mpr c23; have c23b1 : (((rd_T52 l0 (rd l1 x48_3)).f1) != ((rd_T52 l0 (rd l1 0)).f1)) = false := bne_eq_false_iff_eq.mpr c23; clear c23; have H' := Aside0.mk H; clear H; have p336 : 0 ≤ (x48_3 : Int) := of_decide_eq_true tW_; have q336 : x48_3 < (l1.length : Int) := of_decide_eq_true tW_; obtain ⟨ad336, e336, hx336_0⟩ := Kd.at_int HR1.out x48_3 p336 q336; obtain rfl : ad334 = ad336 := (by injection e336); replace hx336_0 := bc_ HB hx336_0; replace p336 := eq_true p336; replace q336 := eq_true q336; have p337 : 0 ≤ ((rd l1 x48_3) : Int) := of_decide_eq_true tW_; have q337 : (rd l1 x48_3) < (l0.length : Int) := of_decide_eq_true tW_; obtain ⟨ad337, e337, hx337_0, hx337_1, hx337_2, hx337_3, hx337_4, hx337_5, hx337_6, hx337_7, hx337_8, hx337_9, hx337_10, hx337_11, hx337_12, hx337_13⟩ := at_T52 HR0.out (rd l1 x48_3) p337 q337; obtain rfl : ad335 = ad337 := (by injection e337); replace hx337_0 := bc_ HB hx337_0; replace hx337_1 := bc_ HB hx337_1; replace hx337_2 := bc_ HB hx337_2; replace hx337_3 := bc_ HB hx337_3; replace hx337_4 := bc_ HB hx337_4; replace hx337_5 := bc_ HB hx337_5; replace hx337_6 := bc_ HB hx337_6; replace hx337_7 := bc_ HB hx337_7; replace hx337_8 := bc_ HB hx337_8; replace hx337_9 := bc_ HB hx337_9; replace hx337_10 := bc_ HB hx337_10; replace hx337_11 := bc_ HB hx337_11; replace hx337_12 := bc_ HB hx337_12; replace hx337_13 := bc_ HB hx337_13; replace p337 := eq_true p337; replace q337 := eq_true q337; go_wp2
                   go_roundg k3
                   case measure => have := HJ4.out; have := HK2.out; have := HK3.out; omega
                   case rel => exact ⟨(wrap64 (x48_3 + 1)), tS_, H', ⟨by have := HJ4.out; have := HK2.out; have := HK3.out; omega⟩, ⟨dL_ HB⟩⟩
                  ·rw [if_neg c23] at H; have c23b0 : (((rd_T52 l0 (rd l1 x48_3)).f1) == ((rd_T52 l0 (rd l1 0)).f1)) = false := beq_eq_false_iff_ne.mpr c23; have c23b1 : (((rd_T52 l0 (rd l1 x48_3)).f1) != ((rd_T52 l0 (rd l1 0)).f1)) = true := bne_iff_ne.mpr c23; obtain rfl := Option.some.inj H; have p336 : 0 ≤ (x48_3 : Int) := of_decide_eq_true tW_; have q336 : x48_3 < (l1.length : Int) := of_decide_eq_true tW_; obtain ⟨ad336, e336, hx336_0⟩ := Kd.at_int HR1.out x48_3 p336 q336; obtain rfl : ad334 = ad336 := (by injection e336); replace hx336_0 := bc_ HB hx336_0; replace p336 := eq_true p336; replace q336 := eq_true q336; have p337 : 0 ≤ ((rd l1 x48_3) : Int) := of_decide_eq_true tW_; have q337 : (rd l1 x48_3) < (l0.length : Int) := of_decide_eq_true tW_; obtain ⟨ad337, e337, hx337_0, hx337_1, hx337_2, hx337_3, hx337_4, hx337_5, hx337_6, hx337_7, hx337_8, hx337_9, hx337_10, hx337_11, hx337_12, hx337_13⟩ := at_T52 HR0.out (rd l1 x48_3) p337 q337; obtain rfl : ad335 = ad337 := (by injection e337); replace hx337_0 := bc_ HB hx337_0; replace hx337_1 := bc_ HB hx337_1; replace hx337_2 := bc_ HB hx337_2; replace hx337_3 := bc_ HB hx337_3; replace hx337_4 := bc_ HB hx337_4; replace hx337_5 := bc_ HB hx337_5; replace hx337_6 := bc_ HB hx337_6; replace hx337_7 := bc_ HB hx337_7; replace hx337_8 := bc_ HB hx337_8; replace hx337_9 := bc_ HB hx337_9; replace hx337_10 := bc_ HB hx337_10; replace hx337_11 := bc_ HB hx337_11; replace hx337_12 := bc_ HB hx337_12; replace hx337_13 := bc_ HB hx337_13; replace p337 := eq_true p337; replace q337 := eq_true q337; go_wp2
                   go_ret
                   exact ⟨tE_, dL_ HB⟩
                 ·rw [if_neg c22] at H; exact absurd H (by simp)
                ·rw [if_neg c21] at H; exact absurd H (by simp)
               ·rw [if_neg c20] at H; exact absurd H (by simp)
              ·rw [if_neg c19] at H; exact absurd H (by simp)
             ·rw [if_neg c18] at H; have c18b0 : decide (x48_3 < (l1.length : Int)) = false := decide_eq_false c18; clear c18; have HC24 := Aside0.mk H; clear H
              go_upto_region 19 with (fail)
              go_cut [80] (fun v80 wc => ∃ (kq : Nat) (x80_23 : Bool), v80 = .bool x80_23 ∧ Aside0 (hinterlandref14_coupled.j4 kq x80_23 = some r) ∧ Aside0 (kq ≤ k3) ∧ Aside0 (Below w.heap.size w wc))
              case first =>
               have H := HC24.out; clear HC24
               by_cases c25 : ((rd_T52 l0 (rd l1 0)).f1) = 0
               ·rw [if_pos c25] at H; have c25b0 : (((rd_T52 l0 (rd l1 0)).f1) == 0) = true := beq_iff_eq.mpr c25; have c25b1 : (((rd_T52 l0 (rd l1 0)).f1) != 0) = false := bne_eq_false_iff_eq.mpr c25; clear c25
                (first | rw [c25b0] | (simp only [i64_w, i32_w]; rw [c25b0]) | skip)
                by_cases c26 : 0 < (l1.length : Int)
                ·rw [if_pos c26] at H; have c26b0 : decide (0 < (l1.length : Int)) = true := decide_eq_true c26; have c26b1 : decide (0 < l1.length) = true := decide_eq_true (by omega); clear c26
                 by_cases c27 : 0 ≤ (rd l1 0)
                 ·rw [if_pos c27] at H; have c27b0 : decide (0 ≤ (rd l1 0)) = true := decide_eq_true c27; clear c27
                  by_cases c28 : (rd l1 0) < (l0.length : Int)
                  ·rw [if_pos c28] at H; have c28b0 : decide ((rd l1 0) < (l0.length : Int)) = true := decide_eq_true c28; clear c28
                   by_cases c29 : ((rd_T52 l0 (rd l1 0)).f3) = 0
                   ·rw [if_pos c29] at H; have c29b0 : (((rd_T52 l0 (rd l1 0)).f3) == 0) = true := beq_iff_eq.mpr c29; have c29b1 : (((rd_T52 l0 (rd l1 0)).f3) != 0) = false := bne_eq_false_iff_eq.mpr c29; clear c29; have H' := Aside0.mk H; clear H; have p338 : 0 ≤ (0 : Int) := (by omega); have q338 : 0 < (l1.length : Int) := of_decide_eq_true tW_; obtain ⟨ad338, e338, hx338_0⟩ := Kd.at_int HR1.out 0 p338 q338; obtain rfl : ad334 = ad338 := (by injection e338); have qi338 : (0 < l1.length) = True := eq_true (by omega); (try rw [show ((0 : Int)).toNat = 0 from rfl] at hx338_0); (try rw [Addr.add_zero'] at hx338_0); replace hx338_0 := bc_ HB hx338_0; replace p338 := eq_true p338; replace q338 := eq_true q338; have p339 : 0 ≤ ((rd l1 0) : Int) := of_decide_eq_true tW_; have q339 : (rd l1 0) < (l0.length : Int) := of_decide_eq_true tW_; obtain ⟨ad339, e339, hx339_0, hx339_1, hx339_2, hx339_3, hx339_4, hx339_5, hx339_6, hx339_7, hx339_8, hx339_9, hx339_10, hx339_11, hx339_12, hx339_13⟩ := at_T52 HR0.out (rd l1 0) p339 q339; obtain rfl : ad335 = ad339 := (by injection e339); replace hx339_0 := bc_ HB hx339_0; replace hx339_1 := bc_ HB hx339_1; replace hx339_2 := bc_ HB hx339_2; replace hx339_3 := bc_ HB hx339_3; replace hx339_4 := bc_ HB hx339_4; replace hx339_5 := bc_ HB hx339_5; replace hx339_6 := bc_ HB hx339_6; replace hx339_7 := bc_ HB hx339_7; replace hx339_8 := bc_ HB hx339_8; replace hx339_9 := bc_ HB hx339_9; replace hx339_10 := bc_ HB hx339_10; replace hx339_11 := bc_ HB hx339_11; replace hx339_12 := bc_ HB hx339_12; replace hx339_13 := bc_ HB hx339_13; replace p339 := eq_true p339; replace q339 := eq_true q339; go_wp2
                    go_meet
                    case rel => exact ⟨_, (true), tS_, H', ⟨by have := HJ4.out; have := HK2.out; have := HK3.out; first | omega | exact Nat.le_refl _⟩, ⟨dL_ HB⟩⟩
                   ·rw [if_neg c29] at H; have c29b0 : (((rd_T52 l0 (rd l1 0)).f3) == 0) = false := beq_eq_false_iff_ne.mpr c29; have c29b1 : (((rd_T52 l0 (rd l1 0)).f3) != 0) = true := bne_iff_ne.mpr c29; have H' := Aside0.mk H; clear H; have p338 : 0 ≤ (0 : Int) := (by omega); have q338 : 0 < (l1.length : Int) := of_decide_eq_true tW_; obtain ⟨ad338, e338, hx338_0⟩ := Kd.at_int HR1.out 0 p338 q338; obtain rfl : ad334 = ad338 := (by injection e338); have qi338 : (0 < l1.length) = True := eq_true (by omega); (try rw [show ((0 : Int)).toNat = 0 from rfl] at hx338_0); (try rw [Addr.add_zero'] at hx338_0); replace hx338_0 := bc_ HB hx338_0; replace p338 := eq_true p338; replace q338 := eq_true q338; have p339 : 0 ≤ ((rd l1 0) : Int) := of_decide_eq_true tW_; have q339 : (rd l1 0) < (l0.length : Int) := of_decide_eq_true tW_; obtain ⟨ad339, e339, hx339_0, hx339_1, hx339_2, hx339_3, hx339_4, hx339_5, hx339_6, hx339_7, hx339_8, hx339_9, hx339_10, hx339_11, hx339_12, hx339_13⟩ := at_T52 HR0.out (rd l1 0) p339 q339; obtain rfl : ad335 = ad339 := (by injection e339); replace hx339_0 := bc_ HB hx339_0; replace hx339_1 := bc_ HB hx339_1; replace hx339_2 := bc_ HB hx339_2; replace hx339_3 := bc_ HB hx339_3; replace hx339_4 := bc_ HB hx339_4; replace hx339_5 := bc_ HB hx339_5; replace hx339_6 := bc_ HB hx339_6; replace hx339_7 := bc_ HB hx339_7; replace hx339_8 := bc_ HB hx339_8; replace hx339_9 := bc_ HB hx339_9; replace hx339_10 := bc_ HB hx339_10; replace hx339_11 := bc_ HB hx339_11; replace hx339_12 := bc_ HB hx339_12; replace hx339_13 := bc_ HB hx339_13; replace p339 := eq_true p339; replace q339 := eq_true q339; go_wp2
                    go_meet
                    case rel => exact ⟨_, (false), tS_, H', ⟨by have := HJ4.out; have := HK2.out; have := HK3.out; first | omega | exact Nat.le_refl _⟩, ⟨dL_ HB⟩⟩
                  ·rw [if_neg c28] at H; exact absurd H (by simp)
                 ·rw [if_neg c27] at H; exact absurd H (by simp)
                ·rw [if_neg c26] at H; exact absurd H (by simp)
               ·rw [if_neg c25] at H; have c25b0 : (((rd_T52 l0 (rd l1 0)).f1) == 0) = false := beq_eq_false_iff_ne.mpr c25; have c25b1 : (((rd_T52 l0 (rd l1 0)).f1) != 0) = true := bne_iff_ne.mpr c25
                (first | rw [c25b0] | (simp only [i64_w, i32_w]; rw [c25b0]) | skip)
                have H' := Aside0.mk H; clear H; go_wp2
                go_meet
                case rel => exact ⟨_, (decide ((l1.length : Int) > 1)), tS_, H', ⟨by have := HJ4.out; have := HK2.out; have := HK3.out; first | omega | exact Nat.le_refl _⟩, ⟨dL_ HB⟩⟩
              case rest =>
               clear HC24; (try clear c1); (try clear c4); (try clear c4b0); (try clear c4b1); (try clear c7); (try clear c8); (try clear c9); (try clear c9b0); (try clear c10); (try clear c11); (try clear c13); (try clear c15); (try clear c15b0); (try clear c15b1); (try clear c16); (try clear c16b0); (try clear c17); (try clear c17b0); (try clear c18); (try clear c18b0); (try clear c19); (try clear c20); (try clear c21); (try clear c22); (try clear c23); (try clear c25); (try clear c26); (try clear c27); (try clear c28); (try clear c29); (try clear hx334_0); (try clear hx335_0); (try clear hx335_1); (try clear hx335_10); (try clear hx335_11); (try clear hx335_12); (try clear hx335_13); (try clear hx335_2); (try clear hx335_3); (try clear hx335_4); (try clear hx335_5); (try clear hx335_6); (try clear hx335_7); (try clear hx335_8); (try clear hx335_9); (try clear p334); (try clear p335); (try clear q334); (try clear q335); obtain ⟨kq, x80_23, rfl, HA, HJ23, HB⟩ := hcut
               cases kq with
               | zero => exact absurd HA.out (by simp [hinterlandref14_coupled.j4])
               | succ kj23 =>
                have H := HA.out; clear HA; simp only [hinterlandref14_coupled.j4] at H
                by_cases c30 : x80_23 = true
                ·subst c30; rw [if_pos rfl] at H; obtain rfl := Option.some.inj H; go_wp2
                 go_ret
                 exact ⟨tE_, dL_ HB⟩
                ·replace c30 := Bool.eq_false_iff.mpr c30; subst c30; rw [if_neg (show ¬ (false = true) by decide)] at H; obtain rfl := Option.some.inj H; go_wp2
                 go_ret
                 exact ⟨tE_, dL_ HB⟩
          ·rw [if_neg c17] at H; exact absurd H (by simp)
         ·rw [if_neg c16] at H; exact absurd H (by simp)
        ·rw [if_neg c15] at H; exact absurd H (by simp)
 ·rw [if_neg c4] at H; have c4b0 : (t332 == 0) = false := beq_eq_false_iff_ne.mpr c4; have c4b1 : (t332 != 0) = true := bne_iff_ne.mpr c4; obtain rfl := Option.some.inj H
  go_enter Try.func34, Try.ntmps34
  go_wp2_with (first | ((with_reducible refine gate_callee (f := 44) rfl ?_); refine gL_ (some 12) Try.func44 #[.slice A0 l0.length c0] ?_ rfl; (with_reducible refine (hinterlandref14_ValidateModels.calls k _ _ l0 t332 _ ?side1 ?side2 A3.out).mono ?_); (case side1 => exact rC_ HR0.out); (case side2 => exact HC0.out); rintro e w31 ⟨rfl, hb⟩; refine ⟨_, rfl, ?_⟩; replace HB := Aside0.mk (below_step (dL_ HB) hb)))
  go_ret
  exact ⟨tE_, dL_ HB⟩

end Go.Proofs.Ytgnahbjpockdmab.Q
namespace Go.Proofs.Ytgnahbjpockdmab.Q
open Go.RowKit Go.Proofs.YtgnahbjpockdmabPrs Go.Proofs.YtgnahbjpockdmabOwn Go.Proofs.YtgnahbjpockdmabW.PrintWords Go.Proofs.YtgnahbjpockdmabW.PrintLast Go.Proofs.YtgnahbjpockdmabW.PrintMore
attribute [local go_sem] max2_int min2_int max_two min_two max_three min_three max_four min_four   -- for this text's walks alone
set_option linter.unusedVariables false
set_option linter.unusedSimpArgs false

/-! ### hinterlandref09_less: function 45 -/
def hinterlandref09_less.f (a0_0 : Int) (a0_1 : Int) (a0_2 : Int) (a0_3 : Int) (a0_4 : Int) (a0_5 : Int) (a1_0 : Int) (a1_1 : Int) (a1_2 : Int) (a1_3 : Int) (a1_4 : Int) (a1_5 : Int) : Option (Bool) := if a0_0 = a1_0 then (if a0_1 = a1_1 then (if a0_2 = a1_2 then (some (decide (a0_3 < a1_3))) else (some (decide (a0_2 < a1_2)))) else (some (decide (a0_1 < a1_1)))) else (some (decide (a0_0 < a1_0)))
set_option maxHeartbeats 8000000 in
set_option maxRecDepth 100000 in
theorem hinterlandref09_less.calls (a0_0 : Int) (a0_1 : Int) (a0_2 : Int) (a0_3 : Int) (a0_4 : Int) (a0_5 : Int) (a1_0 : Int) (a1_1 : Int) (a1_2 : Int) (a1_3 : Int) (a1_4 : Int) (a1_5 : Int) (r : Bool) (w : World) (h : hinterlandref09_less.f a0_0 a0_1 a0_2 a0_3 a0_4 a0_5 a1_0 a1_1 a1_2 a1_3 a1_4 a1_5 = some r) :
    Calls Try.prog 45 #[.agg #[.int .i64 a0_0, .int .i64 a0_1, .int .i64 a0_2, .int .i64 a0_3, .int .i64 a0_4, .int .i64 a0_5], .agg #[.int .i64 a1_0, .int .i64 a1_1, .int .i64 a1_2, .int .i64 a1_3, .int .i64 a1_4, .int .i64 a1_5]] w fun e w' => e = .returned (.bool r) ∧ Below w.heap.size w w' := by
 have hu49 := Try.underlying49; have HB := Aside0.mk (Below.refl w.heap.size w); have H : (if a0_0 = a1_0 then (if a0_1 = a1_1 then (if a0_2 = a1_2 then (some (decide (a0_3 < a1_3))) else (some (decide (a0_2 < a1_2)))) else (some (decide (a0_1 < a1_1)))) else (some (decide (a0_0 < a1_0)))) = some r := h; clear h
 by_cases c3 : a0_0 = a1_0
 ·rw [if_pos c3] at H; have c3b0 : (a0_0 == a1_0) = true := beq_iff_eq.mpr c3; have c3b1 : (a0_0 != a1_0) = false := bne_eq_false_iff_eq.mpr c3; clear c3
  by_cases c4 : a0_1 = a1_1
  ·rw [if_pos c4] at H; have c4b0 : (a0_1 == a1_1) = true := beq_iff_eq.mpr c4; have c4b1 : (a0_1 != a1_1) = false := bne_eq_false_iff_eq.mpr c4; clear c4
   by_cases c5 : a0_2 = a1_2
   ·rw [if_pos c5] at H; have c5b0 : (a0_2 == a1_2) = true := beq_iff_eq.mpr c5; have c5b1 : (a0_2 != a1_2) = false := bne_eq_false_iff_eq.mpr c5; clear c5; obtain rfl := Option.some.inj H
    go_enter Try.func45, Try.ntmps45
    go_wp2_with (first | ((with_reducible refine gate_dst (N := 2) rfl ?_); refine bx_ (N := 2) (cs := #[.int .i64 a0_0, .int .i64 a0_1, .int .i64 a0_2, .int .i64 a0_3, .int .i64 a0_4, .int .i64 a0_5]) (t := 49) ?_; intro gb340 hg w6 hbox hb; have BK340 := Aside0.mk (hbox); have GW340 := Aside0.mk ((dS_ hg (dL_ HB) : w.heap.size ≤ gb340)); have GE340 := GW340; replace HB := Aside0.mk (below_step (dL_ HB) hb); clear hb hbox hg) | ((with_reducible refine gate_dst (N := 3) rfl ?_); refine bx_ (N := 3) (cs := #[.int .i64 a1_0, .int .i64 a1_1, .int .i64 a1_2, .int .i64 a1_3, .int .i64 a1_4, .int .i64 a1_5]) (t := 49) ?_; intro gb341 hg w7 hbox hb; have BK341 := Aside0.mk (hbox); have GW341 := Aside0.mk ((dS_ hg (dL1_ HB GE340) : w.heap.size ≤ gb341)); have GE341 := GW341; replace HB := Aside0.mk (below_step (dL1_ HB GE340) hb); have NB340_341 := nb_ hg BK340; have NB341_340 := nc_ hg BK340; replace BK340 := bk_ BK340 hb; clear hb hbox hg; have hnb8 := NB340_341.out; have hnc8 := NB341_340.out; obtain ⟨z9a, z9b, z9c, z9d, z9e, z9f, y9a, y9b, y9c, y9d, y9e, y9f⟩ := cs6_ BK340.out; obtain ⟨z10a, z10b, z10c, z10d, z10e, z10f, y10a, y10b, y10c, y10d, y10e, y10f⟩ := cs6_ BK341.out))
    go_ret
    exact ⟨tE_, dL2_ HB GE340 GE341⟩
   ·rw [if_neg c5] at H; have c5b0 : (a0_2 == a1_2) = false := beq_eq_false_iff_ne.mpr c5; have c5b1 : (a0_2 != a1_2) = true := bne_iff_ne.mpr c5; obtain rfl := Option.some.inj H
    go_enter Try.func45, Try.ntmps45
    go_wp2_with (first | ((with_reducible refine gate_dst (N := 2) rfl ?_); refine bx_ (N := 2) (cs := #[.int .i64 a0_0, .int .i64 a0_1, .int .i64 a0_2, .int .i64 a0_3, .int .i64 a0_4, .int .i64 a0_5]) (t := 49) ?_; intro gb340 hg w11 hbox hb; have BK340 := Aside0.mk (hbox); have GW340 := Aside0.mk ((dS_ hg (dL_ HB) : w.heap.size ≤ gb340)); have GE340 := GW340; replace HB := Aside0.mk (below_step (dL_ HB) hb); clear hb hbox hg) | ((with_reducible refine gate_dst (N := 3) rfl ?_); refine bx_ (N := 3) (cs := #[.int .i64 a1_0, .int .i64 a1_1, .int .i64 a1_2, .int .i64 a1_3, .int .i64 a1_4, .int .i64 a1_5]) (t := 49) ?_; intro gb341 hg w12 hbox hb; have BK341 := Aside0.mk (hbox); have GW341 := Aside0.mk ((dS_ hg (dL1_ HB GE340) : w.heap.size ≤ gb341)); have GE341 := GW341; replace HB := Aside0.mk (below_step (dL1_ HB GE340) hb); have NB340_341 := nb_ hg BK340; have NB341_340 := nc_ hg BK340; replace BK340 := bk_ BK340 hb; clear hb hbox hg; have hnb13 := NB340_341.out; have hnc13 := NB341_340.out; obtain ⟨z14a, z14b, z14c, z14d, z14e, z14f, y14a, y14b, y14c, y14d, y14e, y14f⟩ := cs6_ BK340.out; obtain ⟨z15a, z15b, z15c, z15d, z15e, z15f, y15a, y15b, y15c, y15d, y15e, y15f⟩ := cs6_ BK341.out))
    go_ret
    exact ⟨tE_, dL2_ HB GE340 GE341⟩
  ·rw [if_neg c4] at H; have c4b0 : (a0_1 == a1_1) = false := beq_eq_false_iff_ne.mpr c4; have c4b1 : (a0_1 != a1_1) = true := bne_iff_ne.mpr c4; obtain rfl := Option.some.inj H
   go_enter Try.func45, Try.ntmps45
   go_wp2_with (first | ((with_reducible refine gate_dst (N := 2) rfl ?_); refine bx_ (N := 2) (cs := #[.int .i64 a0_0, .int .i64 a0_1, .int .i64 a0_2, .int .i64 a0_3, .int .i64 a0_4, .int .i64 a0_5]) (t := 49) ?_; intro gb340 hg w16 hbox hb; have BK340 := Aside0.mk (hbox); have GW340 := Aside0.mk ((dS_ hg (dL_ HB) : w.heap.size ≤ gb340)); have GE340 := GW340; replace HB := Aside0.mk (below_step (dL_ HB) hb); clear hb hbox hg) | ((with_reducible refine gate_dst (N := 3) rfl ?_); refine bx_ (N := 3) (cs := #[.int .i64 a1_0, .int .i64 a1_1, .int .i64 a1_2, .int .i64 a1_3, .int .i64 a1_4, .int .i64 a1_5]) (t := 49) ?_; intro gb341 hg w17 hbox hb; have BK341 := Aside0.mk (hbox); have GW341 := Aside0.mk ((dS_ hg (dL1_ HB GE340) : w.heap.size ≤ gb341)); have GE341 := GW341; replace HB := Aside0.mk (below_step (dL1_ HB GE340) hb); have NB340_341 := nb_ hg BK340; have NB341_340 := nc_ hg BK340; replace BK340 := bk_ BK340 hb; clear hb hbox hg; have hnb18 := NB340_341.out; have hnc18 := NB341_340.out; obtain ⟨z19a, z19b, z19c, z19d, z19e, z19f, y19a, y19b, y19c, y19d, y19e, y19f⟩ := cs6_ BK340.out; obtain ⟨z20a, z20b, z20c, z20d, z20e, z20f, y20a, y20b, y20c, y20d, y20e, y20f⟩ := cs6_ BK341.out))
   go_ret
   exact ⟨tE_, dL2_ HB GE340 GE341⟩
 ·rw [if_neg c3] at H; have c3b0 : (a0_0 == a1_0) = false := beq_eq_false_iff_ne.mpr c3; have c3b1 : (a0_0 != a1_0) = true := bne_iff_ne.mpr c3; obtain rfl := Option.some.inj H
  go_enter Try.func45, Try.ntmps45
  go_wp2_with (first | ((with_reducible refine gate_dst (N := 2) rfl ?_); refine bx_ (N := 2) (cs := #[.int .i64 a0_0, .int .i64 a0_1, .int .i64 a0_2, .int .i64 a0_3, .int .i64 a0_4, .int .i64 a0_5]) (t := 49) ?_; intro gb340 hg w21 hbox hb; have BK340 := Aside0.mk (hbox); have GW340 := Aside0.mk ((dS_ hg (dL_ HB) : w.heap.size ≤ gb340)); have GE340 := GW340; replace HB := Aside0.mk (below_step (dL_ HB) hb); clear hb hbox hg) | ((with_reducible refine gate_dst (N := 3) rfl ?_); refine bx_ (N := 3) (cs := #[.int .i64 a1_0, .int .i64 a1_1, .int .i64 a1_2, .int .i64 a1_3, .int .i64 a1_4, .int .i64 a1_5]) (t := 49) ?_; intro gb341 hg w22 hbox hb; have BK341 := Aside0.mk (hbox); have GW341 := Aside0.mk ((dS_ hg (dL1_ HB GE340) : w.heap.size ≤ gb341)); have GE341 := GW341; replace HB := Aside0.mk (below_step (dL1_ HB GE340) hb); have NB340_341 := nb_ hg BK340; have NB341_340 := nc_ hg BK340; replace BK340 := bk_ BK340 hb; clear hb hbox hg; have hnb23 := NB340_341.out; have hnc23 := NB341_340.out; obtain ⟨z24a, z24b, z24c, z24d, z24e, z24f, y24a, y24b, y24c, y24d, y24e, y24f⟩ := cs6_ BK340.out; obtain ⟨z25a, z25b, z25c, z25d, z25e, z25f, y25a, y25b, y25c, y25d, y25e, y25f⟩ := cs6_ BK341.out))
  go_ret
  exact ⟨tE_, dL2_ HB GE340 GE341⟩

end Go.Proofs.Ytgnahbjpockdmab.Q
namespace Go.Proofs.Ytgnahbjpockdmab.Q
open Go.RowKit Go.Proofs.YtgnahbjpockdmabPrs Go.Proofs.YtgnahbjpockdmabOwn Go.Proofs.YtgnahbjpockdmabW.PrintWords Go.Proofs.YtgnahbjpockdmabW.PrintLast Go.Proofs.YtgnahbjpockdmabW.PrintMore
attribute [local go_sem] max2_int min2_int max_two min_two max_three min_three max_four min_four   -- for this text's walks alone
set_option linter.unusedVariables false
set_option linter.unusedSimpArgs false

/-! ### hinterlandref09_Out: function 46 -/
def hinterlandref09_Out.f (a0 : Int) (a1 : Int) : Option (Bool) := if a0 < 0 then (some true) else (some (decide (a0 > a1)))
set_option maxHeartbeats 8000000 in
set_option maxRecDepth 100000 in
theorem hinterlandref09_Out.calls (a0 : Int) (a1 : Int) (r : Bool) (w : World) (h : hinterlandref09_Out.f a0 a1 = some r) :
    Calls Try.prog 46 #[.int .i64 a0, .int .i64 a1] w fun e w' => e = .returned (.bool r) ∧ Drawn0 w w' := by
 have H : (if a0 < 0 then (some true) else (some (decide (a0 > a1)))) = some r := h; clear h
 by_cases c3 : a0 < 0
 ·rw [if_pos c3] at H; have c3b0 : decide (a0 < 0) = true := decide_eq_true c3; clear c3; obtain rfl := Option.some.inj H
  go_enter Try.func46, Try.ntmps46
  go_wp2
  go_ret
  exact ⟨tS_, by repeat (first | exact Drawn0.refl _ | apply Drawn0.step)⟩
 ·rw [if_neg c3] at H; have c3b0 : decide (a0 < 0) = false := decide_eq_false c3; clear c3; obtain rfl := Option.some.inj H
  go_enter Try.func46, Try.ntmps46
  go_wp2
  go_ret
  exact ⟨tS_, by repeat (first | exact Drawn0.refl _ | apply Drawn0.step)⟩

end Go.Proofs.Ytgnahbjpockdmab.Q
