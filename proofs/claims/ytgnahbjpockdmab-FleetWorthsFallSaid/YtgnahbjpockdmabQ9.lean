-- PRINTED by print.py out of the translation. Not trusted: Lean checks it.
import Derived.Test.YtgnahbjpockdmabPrs
import Derived.Test.YtgnahbjpockdmabQ0
import Derived.Test.YtgnahbjpockdmabQ2
import Derived.Test.YtgnahbjpockdmabQ8
import Derived.Test.YtgnahbjpockdmabQ6
namespace Go.Proofs.Ytgnahbjpockdmab.Q
open Go.RowKit Go.Proofs.YtgnahbjpockdmabPrs Go.Proofs.YtgnahbjpockdmabOwn Go.Proofs.YtgnahbjpockdmabW.PrintWords Go.Proofs.YtgnahbjpockdmabW.PrintLast Go.Proofs.YtgnahbjpockdmabW.PrintMore
attribute [local go_sem] max2_int min2_int max_two min_two max_three min_three max_four min_four   -- for this text's walks alone
set_option linter.unusedVariables false
set_option linter.unusedSimpArgs false

/-! ### fleet_joined: function 28 -/
mutual
def fleet_joined.j0 : Nat → List (S52) → List Int → Bool → Option (Int)
  | 0, _, _, _ => none
  | k + 1, x0, x1, x20 => if x20 = true then (some 1) else (fleet_joined.l0 k x0 x1 x1 (x1.length : Int) 0)
def fleet_joined.l0 : Nat → List (S52) → List Int → List Int → Int → Int → Option (Int)
  | 0, _, _, _, _, _ => none
  | k + 1, x0, x1, x21, x22, x23 => if x23 < x22 then (if 0 ≤ x23 then (if x23 < (x21.length : Int) then (if (rd x21 x23) < 0 then (fleet_joined.j2 k x0 x1 x21 x22 x23 true) else (fleet_joined.j2 k x0 x1 x21 x22 x23 (decide ((rd x21 x23) ≥ (x0.length : Int))))) else (none)) else (none)) else ((fleet_fits.f k x0 x1).bind fun t168 => (some t168))
def fleet_joined.j2 : Nat → List (S52) → List Int → List Int → Int → Int → Bool → Option (Int)
  | 0, _, _, _, _, _, _ => none
  | k + 1, x0, x1, x21, x22, x23, x34 => if x34 = true then (some 2) else (fleet_joined.l0 k x0 x1 x21 x22 (wrap64 (x23 + 1)))
end
def fleet_joined.f (k : Nat) (l0 : List (S52)) (l1 : List Int) : Option (Int) := (fleet_ValidateModels.f k l0).bind fun t167 => (if t167 = 0 then (if (l1.length : Int) = 0 then (fleet_joined.j0 k l0 l1 true) else (fleet_joined.j0 k l0 l1 (decide ((l1.length : Int) > 10)))) else (some t167))
theorem fleet_joined.mono_l : ∀ k, (∀ y0 y1 y2, LeO (fleet_joined.j0 k y0 y1 y2) (fleet_joined.j0 (k + 1) y0 y1 y2)) ∧ (∀ y0 y1 y2 y3 y4, LeO (fleet_joined.l0 k y0 y1 y2 y3 y4) (fleet_joined.l0 (k + 1) y0 y1 y2 y3 y4)) ∧ (∀ y0 y1 y2 y3 y4 y5, LeO (fleet_joined.j2 k y0 y1 y2 y3 y4 y5) (fleet_joined.j2 (k + 1) y0 y1 y2 y3 y4 y5))
  | 0 => ⟨fun _ _ _ r h => by simp [fleet_joined.j0] at h, fun _ _ _ _ _ r h => by simp [fleet_joined.l0] at h, fun _ _ _ _ _ _ r h => by simp [fleet_joined.j2] at h⟩
  | k + 1 => by
    obtain ⟨ih0, ih1, ih2⟩ := fleet_joined.mono_l k
    refine ⟨?_, ?_, ?_⟩
    · intro y0 y1 y2
      unfold fleet_joined.j0
      repeat' first
      | (with_reducible first | exact ih0 _ _ _ | exact ih1 _ _ _ _ _ | exact ih2 _ _ _ _ _ _ | exact fleet_ValidateModels.mono _ _ | exact fleet_fits.mono _ _ _ | exact LeO.refl _ | exact LeO.none _ | refine LeO.ite ?_ ?_ | refine LeO.bind ?_ (fun _ => ?_))
      | exact ih0 _ _ _
      | exact ih1 _ _ _ _ _
      | exact ih2 _ _ _ _ _ _
      | exact fleet_ValidateModels.mono _ _
      | exact fleet_fits.mono _ _ _
      | exact LeO.none _
      | refine LeO.ite ?_ ?_
      | refine LeO.bind ?_ (fun _ => ?_)
    · intro y0 y1 y2 y3 y4
      unfold fleet_joined.l0
      repeat' first
      | (with_reducible first | exact ih0 _ _ _ | exact ih1 _ _ _ _ _ | exact ih2 _ _ _ _ _ _ | exact fleet_ValidateModels.mono _ _ | exact fleet_fits.mono _ _ _ | exact LeO.refl _ | exact LeO.none _ | refine LeO.ite ?_ ?_ | refine LeO.bind ?_ (fun _ => ?_))
      | exact ih0 _ _ _
      | exact ih1 _ _ _ _ _
      | exact ih2 _ _ _ _ _ _
      | exact fleet_ValidateModels.mono _ _
      | exact fleet_fits.mono _ _ _
      | exact LeO.none _
      | refine LeO.ite ?_ ?_
      | refine LeO.bind ?_ (fun _ => ?_)
    · intro y0 y1 y2 y3 y4 y5
      unfold fleet_joined.j2
      repeat' first
      | (with_reducible first | exact ih0 _ _ _ | exact ih1 _ _ _ _ _ | exact ih2 _ _ _ _ _ _ | exact fleet_ValidateModels.mono _ _ | exact fleet_fits.mono _ _ _ | exact LeO.refl _ | exact LeO.none _ | refine LeO.ite ?_ ?_ | refine LeO.bind ?_ (fun _ => ?_))
      | exact ih0 _ _ _
      | exact ih1 _ _ _ _ _
      | exact ih2 _ _ _ _ _ _
      | exact fleet_ValidateModels.mono _ _
      | exact fleet_fits.mono _ _ _
      | exact LeO.none _
      | refine LeO.ite ?_ ?_
      | refine LeO.bind ?_ (fun _ => ?_)
theorem fleet_joined.mono : ∀ a0 a1 k, LeO (fleet_joined.f k a0 a1) (fleet_joined.f (k + 1) a0 a1) := by
  intro a0 a1 k
  obtain ⟨ih0, ih1, ih2⟩ := fleet_joined.mono_l k
  unfold fleet_joined.f
  repeat' first
      | (with_reducible first | exact ih0 _ _ _ | exact ih1 _ _ _ _ _ | exact ih2 _ _ _ _ _ _ | exact fleet_ValidateModels.mono _ _ | exact fleet_fits.mono _ _ _ | exact LeO.refl _ | exact LeO.none _ | refine LeO.ite ?_ ?_ | refine LeO.bind ?_ (fun _ => ?_))
      | exact ih0 _ _ _
      | exact ih1 _ _ _ _ _
      | exact ih2 _ _ _ _ _ _
      | exact fleet_ValidateModels.mono _ _
      | exact fleet_fits.mono _ _ _
      | exact LeO.none _
      | refine LeO.ite ?_ ?_
      | refine LeO.bind ?_ (fun _ => ?_)
set_option maxHeartbeats 8000000 in
set_option maxRecDepth 100000 in
theorem fleet_joined.calls (k : Nat) (A0 : Option Addr) (c0 : Nat) (l0 : List (S52)) (A1 : Option Addr) (c1 : Nat) (l1 : List Int) (r : Int) (w : World) (hr0 : Kd.C k52 w A0 l0.length l0) (hc0 : l0.length ≤ c0) (hr1 : Kd.C (Kd.int .i64) w A1 l1.length l1) (hc1 : l1.length ≤ c1) (h : fleet_joined.f k l0 l1 = some r) :
    Calls Try.prog 28 #[.slice A0 l0.length c0, .slice A1 l1.length c1] w fun e w' => e = .returned (.int .i64 r) ∧ Below w.heap.size w w' := by
 have HR0 := Aside0.mk hr0
 have HC0 := Aside0.mk hc0
 clear hr0 hc0
 have HR1 := Aside0.mk hr1
 have HC1 := Aside0.mk hc1
 clear hr1 hc1
 have HB := Aside0.mk (Below.refl w.heap.size w)
 have H : ((fleet_ValidateModels.f k l0).bind fun t167 => (if t167 = 0 then (if (l1.length : Int) = 0 then (fleet_joined.j0 k l0 l1 true) else (fleet_joined.j0 k l0 l1 (decide ((l1.length : Int) > 10)))) else (some t167))) = some r := h
 clear h
 replace H := Option.bind_eq_some_iff.mp H
 obtain ⟨t167, A30, H⟩ := H
 replace H : (if t167 = 0 then (if (l1.length : Int) = 0 then (fleet_joined.j0 k l0 l1 true) else (fleet_joined.j0 k l0 l1 (decide ((l1.length : Int) > 10)))) else (some t167)) = some r := H
 have A3 := Aside0.mk A30
 clear A30
 by_cases c4 : t167 = 0
 ·rw [if_pos c4] at H
  have c4b0 : (t167 == 0) = true := beq_iff_eq.mpr c4
  have c4b1 : (t167 != 0) = false := bne_eq_false_iff_eq.mpr c4
  clear c4
  have HC5 := Aside0.mk H
  clear H
  go_enter Try.func28, Try.ntmps28
  go_upto_region 4 with (first | ((with_reducible refine gate_callee (f := 37) rfl ?_); refine goesL_ (some 9) rfl rfl Try.func37 (by kernel_rfl) rfl #[.slice A0 l0.length c0] rfl tA_ ?_; (with_reducible refine (fleet_ValidateModels.calls k _ _ l0 t167 _ ?side1 ?side2 A3.out).mono ?_); (case side1 => repeat (first | exact HR0.out | (with_reducible refine Kd.C_alloc ?_ _) | (with_reducible refine Kd.C_drewN ?_ _) | (with_reducible refine Kd.C_drew ?_))); (case side2 => exact HC0.out); rintro e w6 ⟨rfl, hb⟩; refine ⟨_, rfl, ?_⟩; replace HB := Aside0.mk (below_step (dL_ HB) hb)))
  (try simp only [Act.put, List.setIfInBounds_toArray, List.set_cons_zero, List.set_cons_succ])
  go_cut [20] (fun v20 wc => ∃ (kq : Nat) (x20_4 : Bool), v20 = .bool x20_4 ∧ Aside0 (fleet_joined.j0 kq l0 l1 x20_4 = some r) ∧ Aside0 (kq ≤ k) ∧ Aside0 (Below w.heap.size w wc))
  case first =>
   have H := HC5.out
   clear HC5
   by_cases c7 : (l1.length : Int) = 0
   ·rw [if_pos c7] at H
    have c7b0 : ((l1.length : Int) == 0) = true := beq_iff_eq.mpr c7
    have c7b1 : ((l1.length : Int) != 0) = false := bne_eq_false_iff_eq.mpr c7
    clear c7
    (first | rw [c7b0] | (simp only [i64_w, i32_w]; rw [c7b0]) | skip)
    have H' := Aside0.mk H
    clear H
    go_wp2
    go_meet
    case rel => exact ⟨_, (true), tS_, H', ⟨by first | omega | exact Nat.le_refl _⟩, ⟨dL_ HB⟩⟩
   ·rw [if_neg c7] at H
    have c7b0 : ((l1.length : Int) == 0) = false := beq_eq_false_iff_ne.mpr c7
    have c7b1 : ((l1.length : Int) != 0) = true := bne_iff_ne.mpr c7
    have c7b2 : ¬ (l1 = []) := fun h_ => c7 (by rw [h_]; rfl)
    (first | rw [c7b0] | (simp only [i64_w, i32_w]; rw [c7b0]) | skip)
    have H' := Aside0.mk H
    clear H
    go_wp2
    go_meet
    case rel => exact ⟨_, (decide ((l1.length : Int) > 10)), tS_, H', ⟨by first | omega | exact Nat.le_refl _⟩, ⟨dL_ HB⟩⟩
  case rest =>
   clear HC5
   try clear c1
   try clear c4
   try clear c4b0
   try clear c4b1
   try clear c7
   obtain ⟨kq, x20_4, rfl, HA, HJ4, HB⟩ := hcut
   cases kq with
   | zero => exact absurd HA.out (by simp [fleet_joined.j0])
   | succ kj4 =>
    have H := HA.out
    clear HA
    simp only [fleet_joined.j0] at H
    by_cases c8 : x20_4 = true
    ·subst c8
     have H1 : (some 1) = some r := by rw [if_pos rfl] at H; exact H
     clear H
     have H := H1
     clear H1
     obtain rfl := Option.some.inj H
     go_wp2
     go_ret
     exact ⟨tE_, dL_ HB⟩
    ·replace c8 := Bool.eq_false_iff.mpr c8
     subst c8
     have H1 : (fleet_joined.l0 kj4 l0 l1 l1 (l1.length : Int) 0) = some r := by rw [if_neg (show ¬ (false = true) by decide)] at H; exact H
     clear H
     have H := H1
     clear H1
     have H' := Aside0.mk H
     clear H
     go_wp2
     go_loopg [23] kj4 (fun kq v23 w' => ∃ (x23_2 : Int), v23 = .int .i64 x23_2 ∧ Aside0 (fleet_joined.l0 kq l0 l1 l1 (l1.length : Int) x23_2 = some r) ∧ Aside0 (kq ≤ kj4) ∧ Aside0 (Below w.heap.size w w'))
     case atStart => exact ⟨(0), tS_, H', ⟨Nat.le_refl _⟩, ⟨dL_ HB⟩⟩
     case round =>
      clear H'
      try clear c1
      try clear c4
      try clear c4b0
      try clear c4b1
      try clear c7
      try clear c8
      obtain ⟨x23_2, rfl, HA, HK2, HB⟩ := hrel
      cases gk with
      | zero => exact absurd HA.out (by simp [fleet_joined.l0])
      | succ k2 =>
       have H := HA.out
       clear HA
       simp only [fleet_joined.l0] at H
       by_cases c9 : x23_2 < (l1.length : Int)
       ·rw [if_pos c9] at H
        have c9b0 : decide (x23_2 < (l1.length : Int)) = true := decide_eq_true c9
        clear c9
        by_cases c10 : 0 ≤ x23_2
        ·rw [if_pos c10] at H
         have c10b0 : decide (0 ≤ x23_2) = true := decide_eq_true c10
         clear c10
         by_cases c11 : x23_2 < (l1.length : Int)
         ·rw [if_pos c11] at H
          have c11b0 : decide (x23_2 < (l1.length : Int)) = true := decide_eq_true c11
          clear c11
          have HC12 := Aside0.mk H
          clear H
          have p169 : 0 ≤ (x23_2 : Int) := of_decide_eq_true tW_
          have q169 : x23_2 < (l1.length : Int) := of_decide_eq_true tW_
          obtain ⟨ad169, e169, hx169_0⟩ := Kd.at_int HR1.out x23_2 p169 q169
          cases e169
          replace hx169_0 := bc_ HB hx169_0
          replace p169 := eq_true p169
          replace q169 := eq_true q169
          go_upto_region 9 with (fail)
          go_cut [34] (fun v34 wc => ∃ (kq : Nat) (x34_11 : Bool), v34 = .bool x34_11 ∧ Aside0 (fleet_joined.j2 kq l0 l1 l1 (l1.length : Int) x23_2 x34_11 = some r) ∧ Aside0 (kq ≤ k2) ∧ Aside0 (Below w.heap.size w wc))
          case first =>
           have H := HC12.out
           clear HC12
           by_cases c13 : (rd l1 x23_2) < 0
           ·rw [if_pos c13] at H
            have c13b0 : decide ((rd l1 x23_2) < 0) = true := decide_eq_true c13
            clear c13
            (first | rw [c13b0] | (simp only [i64_w, i32_w]; rw [c13b0]) | skip)
            have H' := Aside0.mk H
            clear H
            go_wp2
            go_meet
            case rel => exact ⟨_, (true), tS_, H', ⟨by have := HJ4.out; have := HK2.out; first | omega | exact Nat.le_refl _⟩, ⟨dL_ HB⟩⟩
           ·rw [if_neg c13] at H
            have c13b0 : decide ((rd l1 x23_2) < 0) = false := decide_eq_false c13
            clear c13
            (first | rw [c13b0] | (simp only [i64_w, i32_w]; rw [c13b0]) | skip)
            have H' := Aside0.mk H
            clear H
            go_wp2
            go_meet
            case rel => exact ⟨_, (decide ((rd l1 x23_2) ≥ (l0.length : Int))), tS_, H', ⟨by have := HJ4.out; have := HK2.out; first | omega | exact Nat.le_refl _⟩, ⟨dL_ HB⟩⟩
          case rest =>
           clear HC12
           try clear c1
           try clear c4
           try clear c4b0
           try clear c4b1
           try clear c7
           try clear c8
           try clear c9
           try clear c9b0
           try clear c10
           try clear c10b0
           try clear c11
           try clear c11b0
           try clear c13
           try clear hx169_0
           try clear p169
           try clear q169
           obtain ⟨kq, x34_11, rfl, HA, HJ11, HB⟩ := hcut
           cases kq with
           | zero => exact absurd HA.out (by simp [fleet_joined.j2])
           | succ kj11 =>
            have H := HA.out
            clear HA
            simp only [fleet_joined.j2] at H
            by_cases c14 : x34_11 = true
            ·subst c14
             have H1 : (some 2) = some r := by rw [if_pos rfl] at H; exact H
             clear H
             have H := H1
             clear H1
             obtain rfl := Option.some.inj H
             go_wp2
             go_ret
             exact ⟨tE_, dL_ HB⟩
            ·replace c14 := Bool.eq_false_iff.mpr c14
             subst c14
             have H1 : (fleet_joined.l0 kj11 l0 l1 l1 (l1.length : Int) (wrap64 (x23_2 + 1))) = some r := by rw [if_neg (show ¬ (false = true) by decide)] at H; exact H
             clear H
             have H := H1
             clear H1
             have H' := Aside0.mk H
             clear H
             go_wp2
             go_roundg kj11
             case measure => have := HJ4.out; have := HK2.out; have := HJ11.out; omega
             case rel => exact ⟨(wrap64 (x23_2 + 1)), tS_, H', ⟨by have := HJ4.out; have := HK2.out; have := HJ11.out; omega⟩, ⟨dL_ HB⟩⟩
         ·rw [if_neg c11] at H
          exact absurd H (by simp)
        ·rw [if_neg c10] at H
         exact absurd H (by simp)
       ·rw [if_neg c9] at H
        have c9b0 : decide (x23_2 < (l1.length : Int)) = false := decide_eq_false c9
        clear c9
        replace H := Option.bind_eq_some_iff.mp H
        obtain ⟨t168, A150, H⟩ := H
        replace H : (some t168) = some r := H
        have A15 := Aside0.mk A150
        clear A150
        obtain rfl := Option.some.inj H
        go_wp2_with (first | ((with_reducible refine gate_callee (f := 22) rfl ?_); refine goesL_ (some 38) rfl rfl Try.func22 (by kernel_rfl) rfl #[.slice A0 l0.length c0, .slice A1 l1.length c1] rfl tA_ ?_; (with_reducible refine (fleet_fits.calls k2 _ _ l0 _ _ l1 t168 _ ?side1 ?side2 ?side3 ?side4 A15.out).mono ?_); (case side1 => exact dC_ HR0 HB); (case side2 => exact HC0.out); (case side3 => exact dC_ HR1 HB); (case side4 => exact HC1.out); rintro e w16 ⟨rfl, hb⟩; refine ⟨_, rfl, ?_⟩; replace HB := Aside0.mk (below_step (dL_ HB) hb)))
        go_ret
        exact ⟨tE_, dL_ HB⟩
 ·rw [if_neg c4] at H
  have c4b0 : (t167 == 0) = false := beq_eq_false_iff_ne.mpr c4
  have c4b1 : (t167 != 0) = true := bne_iff_ne.mpr c4
  obtain rfl := Option.some.inj H
  go_enter Try.func28, Try.ntmps28
  go_wp2_with (first | ((with_reducible refine gate_callee (f := 37) rfl ?_); refine goesL_ (some 9) rfl rfl Try.func37 (by kernel_rfl) rfl #[.slice A0 l0.length c0] rfl tA_ ?_; (with_reducible refine (fleet_ValidateModels.calls k _ _ l0 t167 _ ?side1 ?side2 A3.out).mono ?_); (case side1 => repeat (first | exact HR0.out | (with_reducible refine Kd.C_alloc ?_ _) | (with_reducible refine Kd.C_drewN ?_ _) | (with_reducible refine Kd.C_drew ?_))); (case side2 => exact HC0.out); rintro e w17 ⟨rfl, hb⟩; refine ⟨_, rfl, ?_⟩; replace HB := Aside0.mk (below_step (dL_ HB) hb)))
  go_ret
  exact ⟨tE_, dL_ HB⟩

end Go.Proofs.Ytgnahbjpockdmab.Q
namespace Go.Proofs.Ytgnahbjpockdmab.Q
open Go.RowKit Go.Proofs.YtgnahbjpockdmabPrs Go.Proofs.YtgnahbjpockdmabOwn Go.Proofs.YtgnahbjpockdmabW.PrintWords Go.Proofs.YtgnahbjpockdmabW.PrintLast Go.Proofs.YtgnahbjpockdmabW.PrintMore
attribute [local go_sem] max2_int min2_int max_two min_two max_three min_three max_four min_four   -- for this text's walks alone
set_option linter.unusedVariables false
set_option linter.unusedSimpArgs false

/-! ### fleet_Facts: function 14 -/
def fleet_Facts.l0 : Nat → List (S52) → List Int → Int → Int → Int → Int → Int → Int → Int → Int → Int → Bool → Option (Int × Int × Int × Int × Int × Int × Int × Bool × Int)
  | 0, _, _, _, _, _, _, _, _, _, _, _, _ => none
  | k + 1, x0, x19, x20, x21, x173000, x173001, x173002, x173003, x173004, x173005, x173006, x173007 => if x21 < x20 then (if 0 ≤ x21 then (if x21 < (x19.length : Int) then (if 0 ≤ (rd x19 x21) then (if (rd x19 x21) < (x0.length : Int) then ((fleet_engine_add.f ((rd_T52 x0 (rd x19 x21)).f0) ((rd_T52 x0 (rd x19 x21)).f1) ((rd_T52 x0 (rd x19 x21)).f2) ((rd_T52 x0 (rd x19 x21)).f3) ((rd_T52 x0 (rd x19 x21)).f4) ((rd_T52 x0 (rd x19 x21)).f5) ((rd_T52 x0 (rd x19 x21)).f6) ((rd_T52 x0 (rd x19 x21)).f7) ((rd_T52 x0 (rd x19 x21)).f8) ((rd_T52 x0 (rd x19 x21)).f9) ((rd_T52 x0 (rd x19 x21)).f10) ((rd_T52 x0 (rd x19 x21)).f11) ((rd_T52 x0 (rd x19 x21)).f12) ((rd_T52 x0 (rd x19 x21)).f13) x173000 x173001 x173002 x173003 x173004 x173005 x173006 x173007).bind fun bt175 => (fleet_Facts.l0 k x0 x19 x20 (wrap64 (x21 + 1)) bt175.1 bt175.2.1 bt175.2.2.1 bt175.2.2.2.1 bt175.2.2.2.2.1 bt175.2.2.2.2.2.1 bt175.2.2.2.2.2.2.1 bt175.2.2.2.2.2.2.2)) else (none)) else (none)) else (none)) else (none)) else (if x173000 = 0 then (some (600, x173001, x173002, x173003, x173004, x173005, x173006, x173007, 0)) else (some (x173000, x173001, x173002, x173003, x173004, x173005, x173006, x173007, 0)))
def fleet_Facts.f (k : Nat) (l0 : List (S52)) (l1 : List Int) : Option (Int × Int × Int × Int × Int × Int × Int × Bool × Int) := (fleet_joined.f k l0 l1).bind fun t171 => (if t171 = 0 then (fleet_Facts.l0 k l0 l1 (l1.length : Int) 0 0 0 0 0 0 0 0 false) else (some (0, 0, 0, 0, 0, 0, 0, false, t171)))
theorem fleet_Facts.mono_l : ∀ k, (∀ y0 y1 y2 y3 y4 y5 y6 y7 y8 y9 y10 y11, LeO (fleet_Facts.l0 k y0 y1 y2 y3 y4 y5 y6 y7 y8 y9 y10 y11) (fleet_Facts.l0 (k + 1) y0 y1 y2 y3 y4 y5 y6 y7 y8 y9 y10 y11))
  | 0 => fun _ _ _ _ _ _ _ _ _ _ _ _ r h => by simp [fleet_Facts.l0] at h
  | k + 1 => by
    have ih0 := fleet_Facts.mono_l k
    · intro y0 y1 y2 y3 y4 y5 y6 y7 y8 y9 y10 y11
      unfold fleet_Facts.l0
      repeat' first
      | (with_reducible first | exact ih0 _ _ _ _ _ _ _ _ _ _ _ _ | exact fleet_joined.mono _ _ _ | exact LeO.refl _ | exact LeO.none _ | refine LeO.ite ?_ ?_ | refine LeO.bind ?_ (fun _ => ?_))
      | exact ih0 _ _ _ _ _ _ _ _ _ _ _ _
      | exact fleet_joined.mono _ _ _
      | exact LeO.none _
      | refine LeO.ite ?_ ?_
      | refine LeO.bind ?_ (fun _ => ?_)
theorem fleet_Facts.mono : ∀ a0 a1 k, LeO (fleet_Facts.f k a0 a1) (fleet_Facts.f (k + 1) a0 a1) := by
  intro a0 a1 k
  have ih0 := fleet_Facts.mono_l k
  unfold fleet_Facts.f
  repeat' first
      | (with_reducible first | exact ih0 _ _ _ _ _ _ _ _ _ _ _ _ | exact fleet_joined.mono _ _ _ | exact LeO.refl _ | exact LeO.none _ | refine LeO.ite ?_ ?_ | refine LeO.bind ?_ (fun _ => ?_))
      | exact ih0 _ _ _ _ _ _ _ _ _ _ _ _
      | exact fleet_joined.mono _ _ _
      | exact LeO.none _
      | refine LeO.ite ?_ ?_
      | refine LeO.bind ?_ (fun _ => ?_)
set_option maxHeartbeats 8000000 in
set_option maxRecDepth 100000 in
theorem fleet_Facts.calls (k : Nat) (A0 : Option Addr) (c0 : Nat) (l0 : List (S52)) (A1 : Option Addr) (c1 : Nat) (l1 : List Int) (r1 : Int) (r2 : Int) (r3 : Int) (r4 : Int) (r5 : Int) (r6 : Int) (r7 : Int) (r8 : Bool) (r9 : Int) (w : World) (hr0 : Kd.C k52 w A0 l0.length l0) (hc0 : l0.length ≤ c0) (hr1 : Kd.C (Kd.int .i64) w A1 l1.length l1) (hc1 : l1.length ≤ c1) (h : fleet_Facts.f k l0 l1 = some (r1, r2, r3, r4, r5, r6, r7, r8, r9)) :
    Calls Try.prog 14 #[.slice A0 l0.length c0, .slice A1 l1.length c1] w fun e w' => e = .returned (.tuple #[.agg #[.int .i64 r1, .int .i64 r2, .int .i64 r3, .int .i64 r4, .int .i64 r5, .int .i64 r6, .int .i64 r7, .bool r8], .int .i64 r9]) ∧ Below w.heap.size w w' := by
 have hu42 := Try.underlying42
 have hu52 := Try.underlying52
 have hu71 := Try.underlying71
 have HR0 := Aside0.mk hr0
 have HC0 := Aside0.mk hc0
 clear hr0 hc0
 have HR1 := Aside0.mk hr1
 have HC1 := Aside0.mk hc1
 clear hr1 hc1
 have HB := Aside0.mk (Below.refl w.heap.size w)
 have H : ((fleet_joined.f k l0 l1).bind fun t171 => (if t171 = 0 then (fleet_Facts.l0 k l0 l1 (l1.length : Int) 0 0 0 0 0 0 0 0 false) else (some (0, 0, 0, 0, 0, 0, 0, false, t171)))) = some (r1, r2, r3, r4, r5, r6, r7, r8, r9) := h
 clear h
 replace H := Option.bind_eq_some_iff.mp H
 obtain ⟨t171, A30, H⟩ := H
 replace H : (if t171 = 0 then (fleet_Facts.l0 k l0 l1 (l1.length : Int) 0 0 0 0 0 0 0 0 false) else (some (0, 0, 0, 0, 0, 0, 0, false, t171))) = some (r1, r2, r3, r4, r5, r6, r7, r8, r9) := H
 have A3 := Aside0.mk A30
 clear A30
 by_cases c4 : t171 = 0
 ·rw [if_pos c4] at H
  have c4b0 : (t171 == 0) = true := beq_iff_eq.mpr c4
  have c4b1 : (t171 != 0) = false := bne_eq_false_iff_eq.mpr c4
  clear c4
  have H' := Aside0.mk H
  clear H
  go_enter Try.func14, Try.ntmps14
  go_wp2_with (first | ((with_reducible refine gate_dst (N := 4) rfl ?_); refine box_event ?hg (N := 4) ?hd (cs := #[.int .i64 0, .int .i64 0, .int .i64 0, .int .i64 0, .int .i64 0, .int .i64 0, .int .i64 0, .bool false]) (t := 42) ?hr ?_; (case hd => rfl); (case hg => rfl); (case hr => first | (go_simp; done) | (go_simp; rfl)); intro gb170 hg w5 hbox hb; have BK170 := Aside0.mk (hbox); have GW170 := Aside0.mk ((dS_ hg (dL_ HB) : w.heap.size ≤ gb170)); have GE170 := Aside0.mk ((dS_ hg (dL_ HB) : w.heap.size ≤ gb170)); replace HB := Aside0.mk (below_step (dL_ HB) hb); clear hb hbox hg) | ((with_reducible refine gate_callee (f := 28) rfl ?_); refine goesL_ (some 13) rfl rfl Try.func28 (by kernel_rfl) rfl #[.slice A0 l0.length c0, .slice A1 l1.length c1] rfl tA_ ?_; (with_reducible refine (fleet_joined.calls k _ _ l0 _ _ l1 t171 _ ?side1 ?side2 ?side3 ?side4 A3.out).mono ?_); (case side1 => exact dC_ HR0 HB); (case side2 => exact HC0.out); (case side3 => exact dC_ HR1 HB); (case side4 => exact HC1.out); rintro e w6 ⟨rfl, hb⟩; refine ⟨_, rfl, ?_⟩; replace BK170 := Aside0.mk (blk_below (g := gb170) (o := .cells #[.int .i64 0, .int .i64 0, .int .i64 0, .int .i64 0, .int .i64 0, .int .i64 0, .int .i64 0, .bool false] 42 (0, 0)) (dB_ BK170) hb); replace HB := Aside0.mk (below_step (dL1_ HB GE170) hb)) | ((with_reducible refine gate_dst (N := 8) rfl ?_); refine box_event ?hg (N := 8) ?hd (cs := #[.int .i64 0, .int .i64 0, .int .i64 0, .int .i64 0, .int .i64 0, .int .i64 0, .int .i64 0, .bool false]) (t := 42) ?hr ?_; (case hd => rfl); (case hg => rfl); (case hr => first | (go_simp; done) | (go_simp; rfl)); intro gb172 hg w7 hbox hb; have BK172 := Aside0.mk (hbox); have GW172 := Aside0.mk ((dS_ hg (dL1_ HB GE170) : w.heap.size ≤ gb172)); have GE172 := Aside0.mk ((dS_ hg (dL1_ HB GE170) : w.heap.size ≤ gb172)); replace HB := Aside0.mk (below_step (dL1_ HB GE170) hb); have NB170_172 := Aside0.mk ((by rw [hg]; exact Nat.ne_of_lt (blk_lt (dB_ BK170)) : gb170 ≠ gb172)); have NB172_170 := Aside0.mk ((by rw [hg]; exact Nat.ne_of_gt (blk_lt (dB_ BK170)) : gb172 ≠ gb170)); replace BK170 := Aside0.mk (blk_below (g := gb170) (o := .cells #[.int .i64 0, .int .i64 0, .int .i64 0, .int .i64 0, .int .i64 0, .int .i64 0, .int .i64 0, .bool false] 42 (0, 0)) (dB_ BK170) hb); clear hb hbox hg))
  go_loopg [21] k (fun kq v21 w' => ∃ (x21_1 : Int) (x173000_1 : Int) (x173001_1 : Int) (x173002_1 : Int) (x173003_1 : Int) (x173004_1 : Int) (x173005_1 : Int) (x173006_1 : Int) (x173007_1 : Bool), v21 = .int .i64 x21_1 ∧ Aside0 (fleet_Facts.l0 kq l0 l1 (l1.length : Int) x21_1 x173000_1 x173001_1 x173002_1 x173003_1 x173004_1 x173005_1 x173006_1 x173007_1 = some (r1, r2, r3, r4, r5, r6, r7, r8, r9)) ∧ Aside0 (kq ≤ k) ∧ Aside0 (w'.heap[gb170]? = some (.cells #[.int .i64 0, .int .i64 0, .int .i64 0, .int .i64 0, .int .i64 0, .int .i64 0, .int .i64 0, .bool false] 42 (0, 0))) ∧ Aside0 (w'.heap[gb172]? = some (.cells #[.int .i64 x173000_1, .int .i64 x173001_1, .int .i64 x173002_1, .int .i64 x173003_1, .int .i64 x173004_1, .int .i64 x173005_1, .int .i64 x173006_1, .bool x173007_1] 42 (0, 0))) ∧ Aside0 (Below w.heap.size w w'))
  case atStart => exact ⟨(0), (0), (0), (0), (0), (0), (0), (0), (false), tS_, H', ⟨Nat.le_refl _⟩, ⟨dB_ BK170⟩, ⟨dB_ BK172⟩, ⟨dL2_ HB GE170 GE172⟩⟩
  case round =>
   clear H'
   try clear c1
   try clear c4
   try clear c4b0
   try clear c4b1
   obtain ⟨x21_1, x173000_1, x173001_1, x173002_1, x173003_1, x173004_1, x173005_1, x173006_1, x173007_1, rfl, HA, HK1, BK170, BK172, HB⟩ := hrel
   cases gk with
   | zero => exact absurd HA.out (by simp [fleet_Facts.l0])
   | succ k1 =>
    have H := HA.out
    clear HA
    simp only [fleet_Facts.l0] at H
    by_cases c8 : x21_1 < (l1.length : Int)
    ·rw [if_pos c8] at H
     have c8b0 : decide (x21_1 < (l1.length : Int)) = true := decide_eq_true c8
     clear c8
     by_cases c9 : 0 ≤ x21_1
     ·rw [if_pos c9] at H
      have c9b0 : decide (0 ≤ x21_1) = true := decide_eq_true c9
      clear c9
      by_cases c10 : x21_1 < (l1.length : Int)
      ·rw [if_pos c10] at H
       have c10b0 : decide (x21_1 < (l1.length : Int)) = true := decide_eq_true c10
       clear c10
       by_cases c11 : 0 ≤ (rd l1 x21_1)
       ·rw [if_pos c11] at H
        have c11b0 : decide (0 ≤ (rd l1 x21_1)) = true := decide_eq_true c11
        clear c11
        by_cases c12 : (rd l1 x21_1) < (l0.length : Int)
        ·rw [if_pos c12] at H
         have c12b0 : decide ((rd l1 x21_1) < (l0.length : Int)) = true := decide_eq_true c12
         clear c12
         replace H := Option.bind_eq_some_iff.mp H
         obtain ⟨⟨t175, t176, t177, t178, t179, t180, t181, t182⟩, A130, H⟩ := H
         replace H : (fleet_Facts.l0 k1 l0 l1 (l1.length : Int) (wrap64 (x21_1 + 1)) t175 t176 t177 t178 t179 t180 t181 t182) = some (r1, r2, r3, r4, r5, r6, r7, r8, r9) := H
         have A13 := Aside0.mk A130
         clear A130
         have H' := Aside0.mk H
         clear H
         have p173 : 0 ≤ (x21_1 : Int) := of_decide_eq_true tW_
         have q173 : x21_1 < (l1.length : Int) := of_decide_eq_true tW_
         obtain ⟨ad173, e173, hx173_0⟩ := Kd.at_int HR1.out x21_1 p173 q173
         cases e173
         replace hx173_0 := bc_ HB hx173_0
         replace p173 := eq_true p173
         replace q173 := eq_true q173
         have p174 : 0 ≤ ((rd l1 x21_1) : Int) := of_decide_eq_true tW_
         have q174 : (rd l1 x21_1) < (l0.length : Int) := of_decide_eq_true tW_
         obtain ⟨ad174, e174, hx174_0, hx174_1, hx174_2, hx174_3, hx174_4, hx174_5, hx174_6, hx174_7, hx174_8, hx174_9, hx174_10, hx174_11, hx174_12, hx174_13⟩ := at_T52 HR0.out (rd l1 x21_1) p174 q174
         cases e174
         replace hx174_0 := bc_ HB hx174_0
         replace hx174_1 := bc_ HB hx174_1
         replace hx174_2 := bc_ HB hx174_2
         replace hx174_3 := bc_ HB hx174_3
         replace hx174_4 := bc_ HB hx174_4
         replace hx174_5 := bc_ HB hx174_5
         replace hx174_6 := bc_ HB hx174_6
         replace hx174_7 := bc_ HB hx174_7
         replace hx174_8 := bc_ HB hx174_8
         replace hx174_9 := bc_ HB hx174_9
         replace hx174_10 := bc_ HB hx174_10
         replace hx174_11 := bc_ HB hx174_11
         replace hx174_12 := bc_ HB hx174_12
         replace hx174_13 := bc_ HB hx174_13
         replace p174 := eq_true p174
         replace q174 := eq_true q174
         go_wp2_with (first | ((with_reducible refine gate_dst (N := 32) rfl ?_); refine methcall_event (N := 32) (t := 69) (nm := "hinterland/fleet.add") (T := 71) (rv := .agg #[.string ((rd_T52 l0 (rd l1 x21_1)).f0), .int .i64 ((rd_T52 l0 (rd l1 x21_1)).f1), .int .i64 ((rd_T52 l0 (rd l1 x21_1)).f2), .int .i64 ((rd_T52 l0 (rd l1 x21_1)).f3), .int .i64 ((rd_T52 l0 (rd l1 x21_1)).f4), .int .i64 ((rd_T52 l0 (rd l1 x21_1)).f5), .int .i64 ((rd_T52 l0 (rd l1 x21_1)).f6), .int .i64 ((rd_T52 l0 (rd l1 x21_1)).f7), .int .i64 ((rd_T52 l0 (rd l1 x21_1)).f8), .int .i64 ((rd_T52 l0 (rd l1 x21_1)).f9), .int .i64 ((rd_T52 l0 (rd l1 x21_1)).f10), .int .i64 ((rd_T52 l0 (rd l1 x21_1)).f11), .int .i64 ((rd_T52 l0 (rd l1 x21_1)).f12), .bool ((rd_T52 l0 (rd l1 x21_1)).f13)]) (pv := .pointer (some ⟨gb172, 0, none⟩)) (f := 72) rfl rfl rfl rfl rfl rfl Try.func72 (by kernel_rfl) rfl (by kernel_rfl) (meth72 _) ?_; (with_reducible refine (fleet_engine_add.calls ((rd_T52 l0 (rd l1 x21_1)).f0) ((rd_T52 l0 (rd l1 x21_1)).f1) ((rd_T52 l0 (rd l1 x21_1)).f2) ((rd_T52 l0 (rd l1 x21_1)).f3) ((rd_T52 l0 (rd l1 x21_1)).f4) ((rd_T52 l0 (rd l1 x21_1)).f5) ((rd_T52 l0 (rd l1 x21_1)).f6) ((rd_T52 l0 (rd l1 x21_1)).f7) ((rd_T52 l0 (rd l1 x21_1)).f8) ((rd_T52 l0 (rd l1 x21_1)).f9) ((rd_T52 l0 (rd l1 x21_1)).f10) ((rd_T52 l0 (rd l1 x21_1)).f11) ((rd_T52 l0 (rd l1 x21_1)).f12) ((rd_T52 l0 (rd l1 x21_1)).f13) x173000_1 x173001_1 x173002_1 x173003_1 x173004_1 x173005_1 x173006_1 x173007_1 t175 t176 t177 t178 t179 t180 t181 t182 gb172 _ (dB_ BK172) A13.out).mono ?_); rintro e w14 ⟨rfl, hbox, hoth, hbel⟩; refine ⟨_, rfl, ?_⟩; replace BK170 := Aside0.mk (hoth _ _ NB170_172.out (dB_ BK170)); replace BK172 := Aside0.mk (hbox); replace HB := Aside0.mk (hbel _ _ (dL2_ HB GE170 GE172) GE172.out); clear hbox hoth hbel))
         go_roundg k1
         case measure => have := HK1.out; omega
         case rel => exact ⟨(wrap64 (x21_1 + 1)), (t175), (t176), (t177), (t178), (t179), (t180), (t181), (t182), tS_, H', ⟨by have := HK1.out; omega⟩, ⟨dB_ BK170⟩, ⟨dB_ BK172⟩, ⟨dL2_ HB GE170 GE172⟩⟩
        ·rw [if_neg c12] at H
         exact absurd H (by simp)
       ·rw [if_neg c11] at H
        exact absurd H (by simp)
      ·rw [if_neg c10] at H
       exact absurd H (by simp)
     ·rw [if_neg c9] at H
      exact absurd H (by simp)
    ·rw [if_neg c8] at H
     have c8b0 : decide (x21_1 < (l1.length : Int)) = false := decide_eq_false c8
     clear c8
     by_cases c15 : x173000_1 = 0
     ·rw [if_pos c15] at H
      have c15b0 : (x173000_1 == 0) = true := beq_iff_eq.mpr c15
      have c15b1 : (x173000_1 != 0) = false := bne_eq_false_iff_eq.mpr c15
      clear c15
      simp only [Option.some.injEq, Prod.mk.injEq] at H
      obtain ⟨rfl, rfl, rfl, rfl, rfl, rfl, rfl, rfl, rfl⟩ := H
      have hnb16 := NB172_170.out
      have hnc16 := NB170_172.out
      obtain ⟨hcz17_0, hcz17_1, hcz17_2, hcz17_3, hcz17_4, hcz17_5, hcz17_6, hcz17_7, hfz17_0, hfz17_1, hfz17_2, hfz17_3, hfz17_4, hfz17_5, hfz17_6, hfz17_7⟩ := cs8_ BK172.out
      obtain ⟨hcz18_0, hcz18_1, hcz18_2, hcz18_3, hcz18_4, hcz18_5, hcz18_6, hcz18_7, hfz18_0, hfz18_1, hfz18_2, hfz18_3, hfz18_4, hfz18_5, hfz18_6, hfz18_7⟩ := cs8_ BK170.out
      go_wp2
      refine bodyPost_ret (results_ct rfl _ _ gb170 42 #[.int .i64 600, .int .i64 x173001_1, .int .i64 x173002_1, .int .i64 x173003_1, .int .i64 x173004_1, .int .i64 x173005_1, .int .i64 x173006_1, .bool x173007_1] (0, 0) _ rfl (by (with_reducible repeat (first | refine blk_drewN ?_ _ | refine blk_drew ?_ | refine blk_alloc ?_ _)); refine blk_put (cs := #[.int .i64 600, .int .i64 x173001_1, .int .i64 x173002_1, .int .i64 x173003_1, .int .i64 x173004_1, .int .i64 x173005_1, .int .i64 x173006_1, .bool false]) ?_ 7 _ rfl; (with_reducible repeat (first | refine blk_drewN ?_ _ | refine blk_drew ?_ | refine blk_alloc ?_ _)); refine blk_put (cs := #[.int .i64 600, .int .i64 x173001_1, .int .i64 x173002_1, .int .i64 x173003_1, .int .i64 x173004_1, .int .i64 x173005_1, .int .i64 0, .bool false]) ?_ 6 _ rfl; (with_reducible repeat (first | refine blk_drewN ?_ _ | refine blk_drew ?_ | refine blk_alloc ?_ _)); refine blk_put (cs := #[.int .i64 600, .int .i64 x173001_1, .int .i64 x173002_1, .int .i64 x173003_1, .int .i64 x173004_1, .int .i64 0, .int .i64 0, .bool false]) ?_ 5 _ rfl; (with_reducible repeat (first | refine blk_drewN ?_ _ | refine blk_drew ?_ | refine blk_alloc ?_ _)); refine blk_put (cs := #[.int .i64 600, .int .i64 x173001_1, .int .i64 x173002_1, .int .i64 x173003_1, .int .i64 0, .int .i64 0, .int .i64 0, .bool false]) ?_ 4 _ rfl; (with_reducible repeat (first | refine blk_drewN ?_ _ | refine blk_drew ?_ | refine blk_alloc ?_ _)); refine blk_put (cs := #[.int .i64 600, .int .i64 x173001_1, .int .i64 x173002_1, .int .i64 0, .int .i64 0, .int .i64 0, .int .i64 0, .bool false]) ?_ 3 _ rfl; (with_reducible repeat (first | refine blk_drewN ?_ _ | refine blk_drew ?_ | refine blk_alloc ?_ _)); refine blk_put (cs := #[.int .i64 600, .int .i64 x173001_1, .int .i64 0, .int .i64 0, .int .i64 0, .int .i64 0, .int .i64 0, .bool false]) ?_ 2 _ rfl; (with_reducible repeat (first | refine blk_drewN ?_ _ | refine blk_drew ?_ | refine blk_alloc ?_ _)); refine blk_put (cs := #[.int .i64 600, .int .i64 0, .int .i64 0, .int .i64 0, .int .i64 0, .int .i64 0, .int .i64 0, .bool false]) ?_ 1 _ rfl; (with_reducible repeat (first | refine blk_drewN ?_ _ | refine blk_drew ?_ | refine blk_alloc ?_ _)); refine blk_put (cs := #[.int .i64 0, .int .i64 0, .int .i64 0, .int .i64 0, .int .i64 0, .int .i64 0, .int .i64 0, .bool false]) ?_ 0 _ rfl; (with_reducible repeat (first | refine blk_drewN ?_ _ | refine blk_drew ?_ | refine blk_alloc ?_ _)); refine blk_far ?_ NB170_172.out _; (with_reducible repeat (first | refine blk_drewN ?_ _ | refine blk_drew ?_ | refine blk_alloc ?_ _)); exact BK170.out) Try.underlying42 rfl (by kernel_rfl)) rfl ?_
      exact ⟨tE_, dL2_ HB GE170 GE172⟩
     ·rw [if_neg c15] at H
      have c15b0 : (x173000_1 == 0) = false := beq_eq_false_iff_ne.mpr c15
      have c15b1 : (x173000_1 != 0) = true := bne_iff_ne.mpr c15
      simp only [Option.some.injEq, Prod.mk.injEq] at H
      obtain ⟨rfl, rfl, rfl, rfl, rfl, rfl, rfl, rfl, rfl⟩ := H
      have hnb19 := NB172_170.out
      have hnc19 := NB170_172.out
      obtain ⟨hcz20_0, hcz20_1, hcz20_2, hcz20_3, hcz20_4, hcz20_5, hcz20_6, hcz20_7, hfz20_0, hfz20_1, hfz20_2, hfz20_3, hfz20_4, hfz20_5, hfz20_6, hfz20_7⟩ := cs8_ BK172.out
      obtain ⟨hcz21_0, hcz21_1, hcz21_2, hcz21_3, hcz21_4, hcz21_5, hcz21_6, hcz21_7, hfz21_0, hfz21_1, hfz21_2, hfz21_3, hfz21_4, hfz21_5, hfz21_6, hfz21_7⟩ := cs8_ BK170.out
      go_wp2
      refine bodyPost_ret (results_ct rfl _ _ gb170 42 #[.int .i64 x173000_1, .int .i64 x173001_1, .int .i64 x173002_1, .int .i64 x173003_1, .int .i64 x173004_1, .int .i64 x173005_1, .int .i64 x173006_1, .bool x173007_1] (0, 0) _ rfl (dP8_ BK170) Try.underlying42 rfl (by kernel_rfl)) rfl ?_
      exact ⟨tE_, dL2_ HB GE170 GE172⟩
 ·rw [if_neg c4] at H
  have c4b0 : (t171 == 0) = false := beq_eq_false_iff_ne.mpr c4
  have c4b1 : (t171 != 0) = true := bne_iff_ne.mpr c4
  simp only [Option.some.injEq, Prod.mk.injEq] at H
  obtain ⟨rfl, rfl, rfl, rfl, rfl, rfl, rfl, rfl, rfl⟩ := H
  go_enter Try.func14, Try.ntmps14
  go_wp2_with (first | ((with_reducible refine gate_dst (N := 4) rfl ?_); refine box_event ?hg (N := 4) ?hd (cs := #[.int .i64 0, .int .i64 0, .int .i64 0, .int .i64 0, .int .i64 0, .int .i64 0, .int .i64 0, .bool false]) (t := 42) ?hr ?_; (case hd => rfl); (case hg => rfl); (case hr => first | (go_simp; done) | (go_simp; rfl)); intro gb170 hg w22 hbox hb; have BK170 := Aside0.mk (hbox); have GW170 := Aside0.mk ((dS_ hg (dL_ HB) : w.heap.size ≤ gb170)); have GE170 := Aside0.mk ((dS_ hg (dL_ HB) : w.heap.size ≤ gb170)); replace HB := Aside0.mk (below_step (dL_ HB) hb); clear hb hbox hg) | ((with_reducible refine gate_callee (f := 28) rfl ?_); refine goesL_ (some 13) rfl rfl Try.func28 (by kernel_rfl) rfl #[.slice A0 l0.length c0, .slice A1 l1.length c1] rfl tA_ ?_; (with_reducible refine (fleet_joined.calls k _ _ l0 _ _ l1 t171 _ ?side1 ?side2 ?side3 ?side4 A3.out).mono ?_); (case side1 => exact dC_ HR0 HB); (case side2 => exact HC0.out); (case side3 => exact dC_ HR1 HB); (case side4 => exact HC1.out); rintro e w23 ⟨rfl, hb⟩; refine ⟨_, rfl, ?_⟩; replace BK170 := Aside0.mk (blk_below (g := gb170) (o := .cells #[.int .i64 0, .int .i64 0, .int .i64 0, .int .i64 0, .int .i64 0, .int .i64 0, .int .i64 0, .bool false] 42 (0, 0)) (dB_ BK170) hb); replace HB := Aside0.mk (below_step (dL1_ HB GE170) hb); obtain ⟨hcz24_0, hcz24_1, hcz24_2, hcz24_3, hcz24_4, hcz24_5, hcz24_6, hcz24_7, hfz24_0, hfz24_1, hfz24_2, hfz24_3, hfz24_4, hfz24_5, hfz24_6, hfz24_7⟩ := cs8_ BK170.out))
  refine bodyPost_ret (results_ct rfl _ _ gb170 42 #[.int .i64 0, .int .i64 0, .int .i64 0, .int .i64 0, .int .i64 0, .int .i64 0, .int .i64 0, .bool false] (0, 0) _ rfl (dP8_ BK170) Try.underlying42 rfl (by kernel_rfl)) rfl ?_
  exact ⟨tE_, dL1_ HB GE170⟩

end Go.Proofs.Ytgnahbjpockdmab.Q
