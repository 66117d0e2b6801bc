-- PRINTED by print.py out of the translation. Not trusted: Lean checks it.
import Derived.Test.YtgnahbjpockdmaaPrs
import Derived.Test.YtgnahbjpockdmaaQ0
import Derived.Test.YtgnahbjpockdmaaQ17
namespace Go.Proofs.Ytgnahbjpockdmaa.Q
open Go.RowKit Go.Proofs.YtgnahbjpockdmaaPrs Go.Proofs.YtgnahbjpockdmaaOwn Go.Proofs.YtgnahbjpockdmaaW.PrintWords Go.Proofs.YtgnahbjpockdmaaW.PrintLast Go.Proofs.YtgnahbjpockdmaaW.PrintMore
attribute [local go_sem] max2_int min2_int max_two min_two max_three min_three max_four min_four   -- for this text's walks alone
set_option linter.unusedVariables false
set_option linter.unusedSimpArgs false

/-! ### hinterlandref14_coupled: function 40 -/
mutual
def hinterlandref14_coupled.j0 : Nat → List (S54) → List Int → Bool → Option (Int)
  | 0, _, _, _ => none
  | k + 1, x0, x1, x23 => if x23 = true then (some 1) else (hinterlandref14_coupled.l0 k x0 x1 x1 (x1.length : Int) 0)
def hinterlandref14_coupled.l0 : Nat → List (S54) → List Int → List Int → Int → Int → Option (Int)
  | 0, _, _, _, _, _ => none
  | k + 1, x0, x1, x24, x25, x26 => if x26 < x25 then (if 0 ≤ x26 then (if x26 < (x24.length : Int) then (if (rd x24 x26) < 0 then (hinterlandref14_coupled.j2 k x0 x1 x24 x25 x26 true) else (hinterlandref14_coupled.j2 k x0 x1 x24 x25 x26 (decide ((rd x24 x26) ≥ (x0.length : Int))))) else (none)) else (none)) else (if 0 < (x1.length : Int) then (if 0 ≤ (rd x1 0) then (if (rd x1 0) < (x0.length : Int) then (hinterlandref14_coupled.l1 k x0 x1 ((rd_T54 x0 (rd x1 0)).f1) x1 (x1.length : Int) 0) else (none)) else (none)) else (none))
def hinterlandref14_coupled.j2 : Nat → List (S54) → List Int → List Int → Int → Int → Bool → Option (Int)
  | 0, _, _, _, _, _, _ => none
  | k + 1, x0, x1, x24, x25, x26, x37 => if x37 = true then (some 2) else (hinterlandref14_coupled.l0 k x0 x1 x24 x25 (wrap64 (x26 + 1)))
def hinterlandref14_coupled.l1 : Nat → List (S54) → List Int → Int → List Int → Int → Int → Option (Int)
  | 0, _, _, _, _, _, _ => none
  | k + 1, x0, x1, x8, x46, x47, x48 => if x48 < x47 then (if 0 ≤ x48 then (if x48 < (x46.length : Int) then (if 0 ≤ (rd x46 x48) then (if (rd x46 x48) < (x0.length : Int) then (if ((rd_T54 x0 (rd x46 x48)).f1) = x8 then (hinterlandref14_coupled.l1 k x0 x1 x8 x46 x47 (wrap64 (x48 + 1))) else (some 8)) else (none)) else (none)) else (none)) else (none)) else (if x8 = 0 then (if 0 < (x1.length : Int) then (if 0 ≤ (rd x1 0) then (if (rd x1 0) < (x0.length : Int) then (if ((rd_T54 x0 (rd x1 0)).f3) = 0 then (hinterlandref14_coupled.j4 k true) else (hinterlandref14_coupled.j4 k false)) else (none)) else (none)) else (none)) else (hinterlandref14_coupled.j4 k (decide ((x1.length : Int) > 1))))
def hinterlandref14_coupled.j4 : Nat → Bool → Option (Int)
  | 0, _ => none
  | k + 1, x80 => if x80 = true then (some 8) else (some 0)
end
def hinterlandref14_coupled.f (k : Nat) (l0 : List (S54)) (l1 : List Int) : Option (Int) := (hinterlandref14_ValidateModels.f k l0).bind fun t248 => (if t248 = 0 then (if (l1.length : Int) < 1 then (hinterlandref14_coupled.j0 k l0 l1 true) else (hinterlandref14_coupled.j0 k l0 l1 (decide ((l1.length : Int) > 10)))) else (some t248))
theorem hinterlandref14_coupled.mono_l : ∀ k, (∀ y0 y1 y2, LeO (hinterlandref14_coupled.j0 k y0 y1 y2) (hinterlandref14_coupled.j0 (k + 1) y0 y1 y2)) ∧ (∀ y0 y1 y2 y3 y4, LeO (hinterlandref14_coupled.l0 k y0 y1 y2 y3 y4) (hinterlandref14_coupled.l0 (k + 1) y0 y1 y2 y3 y4)) ∧ (∀ y0 y1 y2 y3 y4 y5, LeO (hinterlandref14_coupled.j2 k y0 y1 y2 y3 y4 y5) (hinterlandref14_coupled.j2 (k + 1) y0 y1 y2 y3 y4 y5)) ∧ (∀ y0 y1 y2 y3 y4 y5, LeO (hinterlandref14_coupled.l1 k y0 y1 y2 y3 y4 y5) (hinterlandref14_coupled.l1 (k + 1) y0 y1 y2 y3 y4 y5)) ∧ (∀ y0, LeO (hinterlandref14_coupled.j4 k y0) (hinterlandref14_coupled.j4 (k + 1) y0))
  | 0 => ⟨fun _ _ _ r h => by simp [hinterlandref14_coupled.j0] at h, fun _ _ _ _ _ r h => by simp [hinterlandref14_coupled.l0] at h, fun _ _ _ _ _ _ r h => by simp [hinterlandref14_coupled.j2] at h, fun _ _ _ _ _ _ r h => by simp [hinterlandref14_coupled.l1] at h, fun _ r h => by simp [hinterlandref14_coupled.j4] at h⟩
  | k + 1 => by
    obtain ⟨ih0, ih1, ih2, ih3, ih4⟩ := hinterlandref14_coupled.mono_l k
    refine ⟨?_, ?_, ?_, ?_, ?_⟩
    · intro y0 y1 y2
      unfold hinterlandref14_coupled.j0
      repeat' first
      | (with_reducible exact ih0 _ _ _)
      | (with_reducible exact ih1 _ _ _ _ _)
      | (with_reducible exact ih2 _ _ _ _ _ _)
      | (with_reducible exact ih3 _ _ _ _ _ _)
      | (with_reducible exact ih4 _)
      | (with_reducible exact hinterlandref14_ValidateModels.mono _ _)
      | (with_reducible exact LeO.refl _)
      | (with_reducible exact LeO.none _)
      | (with_reducible refine LeO.ite ?_ ?_)
      | (with_reducible refine LeO.bind ?_ (fun _ => ?_))
      | exact ih0 _ _ _
      | exact ih1 _ _ _ _ _
      | exact ih2 _ _ _ _ _ _
      | exact ih3 _ _ _ _ _ _
      | exact ih4 _
      | exact hinterlandref14_ValidateModels.mono _ _
      | exact LeO.none _
      | refine LeO.ite ?_ ?_
      | refine LeO.bind ?_ (fun _ => ?_)
    · intro y0 y1 y2 y3 y4
      unfold hinterlandref14_coupled.l0
      repeat' first
      | (with_reducible exact ih0 _ _ _)
      | (with_reducible exact ih1 _ _ _ _ _)
      | (with_reducible exact ih2 _ _ _ _ _ _)
      | (with_reducible exact ih3 _ _ _ _ _ _)
      | (with_reducible exact ih4 _)
      | (with_reducible exact hinterlandref14_ValidateModels.mono _ _)
      | (with_reducible exact LeO.refl _)
      | (with_reducible exact LeO.none _)
      | (with_reducible refine LeO.ite ?_ ?_)
      | (with_reducible refine LeO.bind ?_ (fun _ => ?_))
      | exact ih0 _ _ _
      | exact ih1 _ _ _ _ _
      | exact ih2 _ _ _ _ _ _
      | exact ih3 _ _ _ _ _ _
      | exact ih4 _
      | exact hinterlandref14_ValidateModels.mono _ _
      | exact LeO.none _
      | refine LeO.ite ?_ ?_
      | refine LeO.bind ?_ (fun _ => ?_)
    · intro y0 y1 y2 y3 y4 y5
      unfold hinterlandref14_coupled.j2
      repeat' first
      | (with_reducible exact ih0 _ _ _)
      | (with_reducible exact ih1 _ _ _ _ _)
      | (with_reducible exact ih2 _ _ _ _ _ _)
      | (with_reducible exact ih3 _ _ _ _ _ _)
      | (with_reducible exact ih4 _)
      | (with_reducible exact hinterlandref14_ValidateModels.mono _ _)
      | (with_reducible exact LeO.refl _)
      | (with_reducible exact LeO.none _)
      | (with_reducible refine LeO.ite ?_ ?_)
      | (with_reducible refine LeO.bind ?_ (fun _ => ?_))
      | exact ih0 _ _ _
      | exact ih1 _ _ _ _ _
      | exact ih2 _ _ _ _ _ _
      | exact ih3 _ _ _ _ _ _
      | exact ih4 _
      | exact hinterlandref14_ValidateModels.mono _ _
      | exact LeO.none _
      | refine LeO.ite ?_ ?_
      | refine LeO.bind ?_ (fun _ => ?_)
    · intro y0 y1 y2 y3 y4 y5
      unfold hinterlandref14_coupled.l1
      repeat' first
      | (with_reducible exact ih0 _ _ _)
      | (with_reducible exact ih1 _ _ _ _ _)
      | (with_reducible exact ih2 _ _ _ _ _ _)
      | (with_reducible exact ih3 _ _ _ _ _ _)
      | (with_reducible exact ih4 _)
      | (with_reducible exact hinterlandref14_ValidateModels.mono _ _)
      | (with_reducible exact LeO.refl _)
      | (with_reducible exact LeO.none _)
      | (with_reducible refine LeO.ite ?_ ?_)
      | (with_reducible refine LeO.bind ?_ (fun _ => ?_))
      | exact ih0 _ _ _
      | exact ih1 _ _ _ _ _
      | exact ih2 _ _ _ _ _ _
      | exact ih3 _ _ _ _ _ _
      | exact ih4 _
      | exact hinterlandref14_ValidateModels.mono _ _
      | exact LeO.none _
      | refine LeO.ite ?_ ?_
      | refine LeO.bind ?_ (fun _ => ?_)
    · intro y0
      unfold hinterlandref14_coupled.j4
      repeat' first
      | (with_reducible exact ih0 _ _ _)
      | (with_reducible exact ih1 _ _ _ _ _)
      | (with_reducible exact ih2 _ _ _ _ _ _)
      | (with_reducible exact ih3 _ _ _ _ _ _)
      | (with_reducible exact ih4 _)
      | (with_reducible exact hinterlandref14_ValidateModels.mono _ _)
      | (with_reducible exact LeO.refl _)
      | (with_reducible exact LeO.none _)
      | (with_reducible refine LeO.ite ?_ ?_)
      | (with_reducible refine LeO.bind ?_ (fun _ => ?_))
      | exact ih0 _ _ _
      | exact ih1 _ _ _ _ _
      | exact ih2 _ _ _ _ _ _
      | exact ih3 _ _ _ _ _ _
      | exact ih4 _
      | exact hinterlandref14_ValidateModels.mono _ _
      | exact LeO.none _
      | refine LeO.ite ?_ ?_
      | refine LeO.bind ?_ (fun _ => ?_)
theorem hinterlandref14_coupled.mono : ∀ a0 a1 k, LeO (hinterlandref14_coupled.f k a0 a1) (hinterlandref14_coupled.f (k + 1) a0 a1) := by
  intro a0 a1 k
  obtain ⟨ih0, ih1, ih2, ih3, ih4⟩ := hinterlandref14_coupled.mono_l k
  unfold hinterlandref14_coupled.f
  repeat' first
      | (with_reducible exact ih0 _ _ _)
      | (with_reducible exact ih1 _ _ _ _ _)
      | (with_reducible exact ih2 _ _ _ _ _ _)
      | (with_reducible exact ih3 _ _ _ _ _ _)
      | (with_reducible exact ih4 _)
      | (with_reducible exact hinterlandref14_ValidateModels.mono _ _)
      | (with_reducible exact LeO.refl _)
      | (with_reducible exact LeO.none _)
      | (with_reducible refine LeO.ite ?_ ?_)
      | (with_reducible refine LeO.bind ?_ (fun _ => ?_))
      | exact ih0 _ _ _
      | exact ih1 _ _ _ _ _
      | exact ih2 _ _ _ _ _ _
      | exact ih3 _ _ _ _ _ _
      | exact ih4 _
      | exact hinterlandref14_ValidateModels.mono _ _
      | exact LeO.none _
      | refine LeO.ite ?_ ?_
      | refine LeO.bind ?_ (fun _ => ?_)
set_option maxHeartbeats 8000000 in
set_option maxRecDepth 100000 in
theorem hinterlandref14_coupled.calls (k : Nat) (A0 : Option Addr) (c0 : Nat) (l0 : List (S54)) (A1 : Option Addr) (c1 : Nat) (l1 : List Int) (r : Int) (w : World) (hr0 : Kd.C k54 w A0 l0.length l0) (hc0 : l0.length ≤ c0) (hr1 : Kd.C (Kd.int .i64) w A1 l1.length l1) (hc1 : l1.length ≤ c1) (h : hinterlandref14_coupled.f k l0 l1 = some r) :
    Calls Try.prog 40 #[.slice A0 l0.length c0, .slice A1 l1.length c1] w fun e w' => e = .returned (.int .i64 r) ∧ Below w.heap.size w w' := by
 have HR0 := Aside0.mk hr0
 have HC0 := Aside0.mk hc0
 clear hr0 hc0
 have HR1 := Aside0.mk hr1
 have HC1 := Aside0.mk hc1
 clear hr1 hc1
 have HB := Aside0.mk (Below.refl w.heap.size w)
 have H : ((hinterlandref14_ValidateModels.f k l0).bind fun t248 => (if t248 = 0 then (if (l1.length : Int) < 1 then (hinterlandref14_coupled.j0 k l0 l1 true) else (hinterlandref14_coupled.j0 k l0 l1 (decide ((l1.length : Int) > 10)))) else (some t248))) = some r := h
 clear h
 replace H := Option.bind_eq_some_iff.mp H
 obtain ⟨t248, A30, H⟩ := H
 replace H : (if t248 = 0 then (if (l1.length : Int) < 1 then (hinterlandref14_coupled.j0 k l0 l1 true) else (hinterlandref14_coupled.j0 k l0 l1 (decide ((l1.length : Int) > 10)))) else (some t248)) = some r := H
 have A3 := Aside0.mk A30
 clear A30
 by_cases c4 : t248 = 0
 ·rw [if_pos c4] at H
  have c4b0 : (t248 == 0) = true := beq_iff_eq.mpr c4
  have c4b1 : (t248 != 0) = false := bne_eq_false_iff_eq.mpr c4
  clear c4
  have HC5 := Aside0.mk H
  clear H
  go_enter Try.func40, Try.ntmps40
  go_upto_region 4 with (first | ((with_reducible refine gate_callee (f := 18) rfl ?_); refine goesL_ (some 12) rfl rfl Try.func18 (by kernel_rfl) rfl #[.slice A0 l0.length c0] rfl tA_ ?_; (with_reducible refine (hinterlandref14_ValidateModels.calls k _ _ l0 t248 _ ?side1 ?side2 A3.out).mono ?_); (case side1 => repeat (first | exact HR0.out | (with_reducible refine Kd.C_alloc ?_ _) | (with_reducible refine Kd.C_drewN ?_ _) | (with_reducible refine Kd.C_drew ?_))); (case side2 => exact HC0.out); rintro e w6 ⟨rfl, hb⟩; refine ⟨_, rfl, ?_⟩; have n0_ := Aside0.mk (below_step (dL_ HB) hb); clear HB; have HB := n0_; clear n0_; (try clear hb); (try clear hb2); (try clear hk); (try clear hi)))
  (try simp only [Act.put, List.setIfInBounds_toArray, List.set_cons_zero, List.set_cons_succ])
  go_cut [23] (fun v23 wc => ∃ (kq : Nat) (x23_4 : Bool), v23 = .bool x23_4 ∧ Aside0 (hinterlandref14_coupled.j0 kq l0 l1 x23_4 = some r) ∧ Aside0 (kq ≤ k) ∧ Aside0 (Below w.heap.size w wc))
  case first =>
   have H := HC5.out
   clear HC5
   by_cases c7 : (l1.length : Int) < 1
   ·rw [if_pos c7] at H
    have c7b0 : decide ((l1.length : Int) < 1) = true := decide_eq_true c7
    have c7b1 : decide (l1.length < 1) = true := decide_eq_true (by omega)
    clear c7
    (first | rw [c7b0] | (simp only [i64_w, i32_w]; rw [c7b0]) | skip)
    have H' := Aside0.mk H
    clear H
    go_wp2
    go_meet
    case rel => exact ⟨_, (true), tS_, H', ⟨by first | omega | exact Nat.le_refl _⟩, ⟨dL_ HB⟩⟩
   ·rw [if_neg c7] at H
    have c7b0 : decide ((l1.length : Int) < 1) = false := decide_eq_false c7
    have c7b1 : decide (l1.length < 1) = false := decide_eq_false (by omega)
    clear c7
    (first | rw [c7b0] | (simp only [i64_w, i32_w]; rw [c7b0]) | skip)
    have H' := Aside0.mk H
    clear H
    go_wp2
    go_meet
    case rel => exact ⟨_, (decide ((l1.length : Int) > 10)), tS_, H', ⟨by first | omega | exact Nat.le_refl _⟩, ⟨dL_ HB⟩⟩
  case rest =>
   clear HC5
   try clear c1
   try clear c4
   try clear c4b0
   try clear c4b1
   try clear c7
   obtain ⟨kq, x23_4, rfl, HA, HJ4, HB⟩ := hcut
   cases kq with
   | zero => exact absurd HA.out (by simp [hinterlandref14_coupled.j0])
   | succ kj4 =>
    have H := HA.out
    clear HA
    simp only [hinterlandref14_coupled.j0] at H
    by_cases c8 : x23_4 = true
    ·subst c8
     have H1 : (some 1) = some r := by rw [if_pos rfl] at H; exact H
     clear H
     have H := H1
     clear H1
     obtain rfl := Option.some.inj H
     go_wp2
     go_ret
     exact ⟨tE_, dL_ HB⟩
    ·replace c8 := Bool.eq_false_iff.mpr c8
     subst c8
     have H1 : (hinterlandref14_coupled.l0 kj4 l0 l1 l1 (l1.length : Int) 0) = some r := by rw [if_neg (show ¬ (false = true) by decide)] at H; exact H
     clear H
     have H := H1
     clear H1
     have H' := Aside0.mk H
     clear H
     go_wp2
     go_loopg [26] kj4 (fun kq v26 w' => ∃ (x26_2 : Int), v26 = .int .i64 x26_2 ∧ Aside0 (hinterlandref14_coupled.l0 kq l0 l1 l1 (l1.length : Int) x26_2 = some r) ∧ Aside0 (kq ≤ kj4) ∧ Aside0 (Below w.heap.size w w'))
     case atStart => exact ⟨(0), tS_, H', ⟨Nat.le_refl _⟩, ⟨dL_ HB⟩⟩
     case round =>
      clear H'
      try clear c1
      try clear c4
      try clear c4b0
      try clear c4b1
      try clear c7
      try clear c8
      obtain ⟨x26_2, rfl, HA, HK2, HB⟩ := hrel
      cases gk with
      | zero => exact absurd HA.out (by simp [hinterlandref14_coupled.l0])
      | succ k2 =>
       have H := HA.out
       clear HA
       simp only [hinterlandref14_coupled.l0] at H
       by_cases c9 : x26_2 < (l1.length : Int)
       ·rw [if_pos c9] at H
        have c9b0 : decide (x26_2 < (l1.length : Int)) = true := decide_eq_true c9
        clear c9
        by_cases c10 : 0 ≤ x26_2
        ·rw [if_pos c10] at H
         have c10b0 : decide (0 ≤ x26_2) = true := decide_eq_true c10
         clear c10
         by_cases c11 : x26_2 < (l1.length : Int)
         ·rw [if_pos c11] at H
          have c11b0 : decide (x26_2 < (l1.length : Int)) = true := decide_eq_true c11
          clear c11
          have HC12 := Aside0.mk H
          clear H
          have p249 : 0 ≤ (x26_2 : Int) := of_decide_eq_true tW_
          have q249 : x26_2 < (l1.length : Int) := of_decide_eq_true tW_
          obtain ⟨ad249, e249, hx249_0⟩ := Kd.at_int HR1.out x26_2 p249 q249
          cases e249
          replace hx249_0 := bc_ HB hx249_0
          replace p249 := eq_true p249
          replace q249 := eq_true q249
          go_upto_region 9 with (fail)
          go_cut [37] (fun v37 wc => ∃ (kq : Nat) (x37_11 : Bool), v37 = .bool x37_11 ∧ Aside0 (hinterlandref14_coupled.j2 kq l0 l1 l1 (l1.length : Int) x26_2 x37_11 = some r) ∧ Aside0 (kq ≤ k2) ∧ Aside0 (Below w.heap.size w wc))
          case first =>
           have H := HC12.out
           clear HC12
           by_cases c13 : (rd l1 x26_2) < 0
           ·rw [if_pos c13] at H
            have c13b0 : decide ((rd l1 x26_2) < 0) = true := decide_eq_true c13
            clear c13
            (first | rw [c13b0] | (simp only [i64_w, i32_w]; rw [c13b0]) | skip)
            have H' := Aside0.mk H
            clear H
            go_wp2
            go_meet
            case rel => exact ⟨_, (true), tS_, H', ⟨by have := HJ4.out; have := HK2.out; first | omega | exact Nat.le_refl _⟩, ⟨dL_ HB⟩⟩
           ·rw [if_neg c13] at H
            have c13b0 : decide ((rd l1 x26_2) < 0) = false := decide_eq_false c13
            clear c13
            (first | rw [c13b0] | (simp only [i64_w, i32_w]; rw [c13b0]) | skip)
            have H' := Aside0.mk H
            clear H
            go_wp2
            go_meet
            case rel => exact ⟨_, (decide ((rd l1 x26_2) ≥ (l0.length : Int))), tS_, H', ⟨by have := HJ4.out; have := HK2.out; first | omega | exact Nat.le_refl _⟩, ⟨dL_ HB⟩⟩
          case rest =>
           clear HC12
           try clear c1
           try clear c4
           try clear c4b0
           try clear c4b1
           try clear c7
           try clear c8
           try clear c9
           try clear c9b0
           try clear c10
           try clear c10b0
           try clear c11
           try clear c11b0
           try clear c13
           try clear hx249_0
           try clear p249
           try clear q249
           obtain ⟨kq, x37_11, rfl, HA, HJ11, HB⟩ := hcut
           cases kq with
           | zero => exact absurd HA.out (by simp [hinterlandref14_coupled.j2])
           | succ kj11 =>
            have H := HA.out
            clear HA
            simp only [hinterlandref14_coupled.j2] at H
            by_cases c14 : x37_11 = true
            ·subst c14
             have H1 : (some 2) = some r := by rw [if_pos rfl] at H; exact H
             clear H
             have H := H1
             clear H1
             obtain rfl := Option.some.inj H
             go_wp2
             go_ret
             exact ⟨tE_, dL_ HB⟩
            ·replace c14 := Bool.eq_false_iff.mpr c14
             subst c14
             have H1 : (hinterlandref14_coupled.l0 kj11 l0 l1 l1 (l1.length : Int) (wrap64 (x26_2 + 1))) = some r := by rw [if_neg (show ¬ (false = true) by decide)] at H; exact H
             clear H
             have H := H1
             clear H1
             have H' := Aside0.mk H
             clear H
             go_wp2
             go_roundg kj11
             case measure => have := HJ4.out; have := HK2.out; have := HJ11.out; omega
             case rel => exact ⟨(wrap64 (x26_2 + 1)), tS_, H', ⟨by have := HJ4.out; have := HK2.out; have := HJ11.out; omega⟩, ⟨dL_ HB⟩⟩
         ·rw [if_neg c11] at H
          exact absurd H (by simp)
        ·rw [if_neg c10] at H
         exact absurd H (by simp)
       ·rw [if_neg c9] at H
        have c9b0 : decide (x26_2 < (l1.length : Int)) = false := decide_eq_false c9
        clear c9
        by_cases c15 : 0 < (l1.length : Int)
        ·rw [if_pos c15] at H
         have c15b0 : decide (0 < (l1.length : Int)) = true := decide_eq_true c15
         have c15b1 : decide (0 < l1.length) = true := decide_eq_true (by omega)
         clear c15
         by_cases c16 : 0 ≤ (rd l1 0)
         ·rw [if_pos c16] at H
          have c16b0 : decide (0 ≤ (rd l1 0)) = true := decide_eq_true c16
          clear c16
          by_cases c17 : (rd l1 0) < (l0.length : Int)
          ·rw [if_pos c17] at H
           have c17b0 : decide ((rd l1 0) < (l0.length : Int)) = true := decide_eq_true c17
           clear c17
           have H' := Aside0.mk H
           clear H
           have p250 : 0 ≤ (0 : Int) := (by omega)
           have q250 : 0 < (l1.length : Int) := of_decide_eq_true tW_
           obtain ⟨ad250, e250, hx250_0⟩ := Kd.at_int HR1.out 0 p250 q250
           cases e250
           have qi250 : (0 < l1.length) = True := eq_true (by omega)
           (try rw [show ((0 : Int)).toNat = 0 from rfl] at hx250_0)
           (try rw [Addr.add_zero'] at hx250_0)
           replace hx250_0 := bc_ HB hx250_0
           replace p250 := eq_true p250
           replace q250 := eq_true q250
           have p251 : 0 ≤ ((rd l1 0) : Int) := of_decide_eq_true tW_
           have q251 : (rd l1 0) < (l0.length : Int) := of_decide_eq_true tW_
           obtain ⟨ad251, e251, hx251_0, hx251_1, hx251_2, hx251_3, hx251_4, hx251_5, hx251_6, hx251_7, hx251_8, hx251_9, hx251_10, hx251_11, hx251_12, hx251_13⟩ := at_T54 HR0.out (rd l1 0) p251 q251
           cases e251
           replace hx251_0 := bc_ HB hx251_0
           replace hx251_1 := bc_ HB hx251_1
           replace hx251_2 := bc_ HB hx251_2
           replace hx251_3 := bc_ HB hx251_3
           replace hx251_4 := bc_ HB hx251_4
           replace hx251_5 := bc_ HB hx251_5
           replace hx251_6 := bc_ HB hx251_6
           replace hx251_7 := bc_ HB hx251_7
           replace hx251_8 := bc_ HB hx251_8
           replace hx251_9 := bc_ HB hx251_9
           replace hx251_10 := bc_ HB hx251_10
           replace hx251_11 := bc_ HB hx251_11
           replace hx251_12 := bc_ HB hx251_12
           replace hx251_13 := bc_ HB hx251_13
           replace p251 := eq_true p251
           replace q251 := eq_true q251
           go_wp2
           go_loopg [48] k2 (fun kq v48 w' => ∃ (x48_3 : Int), v48 = .int .i64 x48_3 ∧ Aside0 (hinterlandref14_coupled.l1 kq l0 l1 ((rd_T54 l0 (rd l1 0)).f1) l1 (l1.length : Int) x48_3 = some r) ∧ Aside0 (kq ≤ k2) ∧ Aside0 (Below w.heap.size w w'))
           case atStart => exact ⟨(0), tS_, H', ⟨Nat.le_refl _⟩, ⟨dL_ HB⟩⟩
           case round =>
            clear H'
            try clear c1
            try clear c4
            try clear c4b0
            try clear c4b1
            try clear c7
            try clear c8
            try clear c9
            try clear c9b0
            try clear c10
            try clear c11
            try clear c13
            try clear c15
            try clear c15b0
            try clear c15b1
            try clear c16
            try clear c16b0
            try clear c17
            try clear c17b0
            try clear hx250_0
            try clear hx251_0
            try clear hx251_1
            try clear hx251_10
            try clear hx251_11
            try clear hx251_12
            try clear hx251_13
            try clear hx251_2
            try clear hx251_3
            try clear hx251_4
            try clear hx251_5
            try clear hx251_6
            try clear hx251_7
            try clear hx251_8
            try clear hx251_9
            try clear p250
            try clear p251
            try clear q250
            try clear q251
            obtain ⟨x48_3, rfl, HA, HK3, HB⟩ := hrel
            cases gk with
            | zero => exact absurd HA.out (by simp [hinterlandref14_coupled.l1])
            | succ k3 =>
             have H := HA.out
             clear HA
             simp only [hinterlandref14_coupled.l1] at H
             by_cases c18 : x48_3 < (l1.length : Int)
             ·rw [if_pos c18] at H
              have c18b0 : decide (x48_3 < (l1.length : Int)) = true := decide_eq_true c18
              clear c18
              by_cases c19 : 0 ≤ x48_3
              ·rw [if_pos c19] at H
               have c19b0 : decide (0 ≤ x48_3) = true := decide_eq_true c19
               clear c19
               by_cases c20 : x48_3 < (l1.length : Int)
               ·rw [if_pos c20] at H
                have c20b0 : decide (x48_3 < (l1.length : Int)) = true := decide_eq_true c20
                clear c20
                by_cases c21 : 0 ≤ (rd l1 x48_3)
                ·rw [if_pos c21] at H
                 have c21b0 : decide (0 ≤ (rd l1 x48_3)) = true := decide_eq_true c21
                 clear c21
                 by_cases c22 : (rd l1 x48_3) < (l0.length : Int)
                 ·rw [if_pos c22] at H
                  have c22b0 : decide ((rd l1 x48_3) < (l0.length : Int)) = true := decide_eq_true c22
                  clear c22
                  by_cases c23 : ((rd_T54 l0 (rd l1 x48_3)).f1) = ((rd_T54 l0 (rd l1 0)).f1)
                  ·rw [if_pos c23] at H
                   have c23b0 : (((rd_T54 l0 (rd l1 x48_3)).f1) == ((rd_T54 l0 (rd l1 0)).f1)) = true := beq_iff_eq.mpr c23
                   have c23b1 : (((rd_T54 l0 (rd l1 x48_3)).f1) != ((rd_T54 l0 (rd l1 0)).f1)) = false := bne_eq_false_iff_eq.mpr c23
                   clear c23
                   have H' := Aside0.mk H
                   clear H
                   have p252 : 0 ≤ (x48_3 : Int) := of_decide_eq_true tW_
                   have q252 : x48_3 < (l1.length : Int) := of_decide_eq_true tW_
                   obtain ⟨ad252, e252, hx252_0⟩ := Kd.at_int HR1.out x48_3 p252 q252
                   obtain rfl : ad250 = ad252 := (by injection e252)
                   replace hx252_0 := bc_ HB hx252_0
                   replace p252 := eq_true p252
                   replace q252 := eq_true q252
                   have p253 : 0 ≤ ((rd l1 x48_3) : Int) := of_decide_eq_true tW_
                   have q253 : (rd l1 x48_3) < (l0.length : Int) := of_decide_eq_true tW_
                   obtain ⟨ad253, e253, hx253_0, hx253_1, hx253_2, hx253_3, hx253_4, hx253_5, hx253_6, hx253_7, hx253_8, hx253_9, hx253_10, hx253_11, hx253_12, hx253_13⟩ := at_T54 HR0.out (rd l1 x48_3) p253 q253
                   obtain rfl : ad251 = ad253 := (by injection e253)
                   replace hx253_0 := bc_ HB hx253_0
                   replace hx253_1 := bc_ HB hx253_1
                   replace hx253_2 := bc_ HB hx253_2
                   replace hx253_3 := bc_ HB hx253_3
                   replace hx253_4 := bc_ HB hx253_4
                   replace hx253_5 := bc_ HB hx253_5
                   replace hx253_6 := bc_ HB hx253_6
                   replace hx253_7 := bc_ HB hx253_7
                   replace hx253_8 := bc_ HB hx253_8
                   replace hx253_9 := bc_ HB hx253_9
                   replace hx253_10 := bc_ HB hx253_10
                   replace hx253_11 := bc_ HB hx253_11
                   replace hx253_12 := bc_ HB hx253_12
                   replace hx253_13 := bc_ HB hx253_13
                   replace p253 := eq_true p253
                   replace q253 := eq_true q253
                   go_wp2
                   go_roundg k3
                   case measure => have := HJ4.out; have := HK2.out; have := HK3.out; omega
                   case rel => exact ⟨(wrap64 (x48_3 + 1)), tS_, H', ⟨by have := HJ4.out; have := HK2.out; have := HK3.out; omega⟩, ⟨dL_ HB⟩⟩
                  ·rw [if_neg c23] at H
                   have c23b0 : (((rd_T54 l0 (rd l1 x48_3)).f1) == ((rd_T54 l0 (rd l1 0)).f1)) = false := beq_eq_false_iff_ne.mpr c23
                   have c23b1 : (((rd_T54 l0 (rd l1 x48_3)).f1) != ((rd_T54 l0 (rd l1 0)).f1)) = true := bne_iff_ne.mpr c23
                   obtain rfl := Option.some.inj H
                   have p252 : 0 ≤ (x48_3 : Int) := of_decide_eq_true tW_
                   have q252 : x48_3 < (l1.length : Int) := of_decide_eq_true tW_
                   obtain ⟨ad252, e252, hx252_0⟩ := Kd.at_int HR1.out x48_3 p252 q252
                   obtain rfl : ad250 = ad252 := (by injection e252)
                   replace hx252_0 := bc_ HB hx252_0
                   replace p252 := eq_true p252
                   replace q252 := eq_true q252
                   have p253 : 0 ≤ ((rd l1 x48_3) : Int) := of_decide_eq_true tW_
                   have q253 : (rd l1 x48_3) < (l0.length : Int) := of_decide_eq_true tW_
                   obtain ⟨ad253, e253, hx253_0, hx253_1, hx253_2, hx253_3, hx253_4, hx253_5, hx253_6, hx253_7, hx253_8, hx253_9, hx253_10, hx253_11, hx253_12, hx253_13⟩ := at_T54 HR0.out (rd l1 x48_3) p253 q253
                   obtain rfl : ad251 = ad253 := (by injection e253)
                   replace hx253_0 := bc_ HB hx253_0
                   replace hx253_1 := bc_ HB hx253_1
                   replace hx253_2 := bc_ HB hx253_2
                   replace hx253_3 := bc_ HB hx253_3
                   replace hx253_4 := bc_ HB hx253_4
                   replace hx253_5 := bc_ HB hx253_5
                   replace hx253_6 := bc_ HB hx253_6
                   replace hx253_7 := bc_ HB hx253_7
                   replace hx253_8 := bc_ HB hx253_8
                   replace hx253_9 := bc_ HB hx253_9
                   replace hx253_10 := bc_ HB hx253_10
                   replace hx253_11 := bc_ HB hx253_11
                   replace hx253_12 := bc_ HB hx253_12
                   replace hx253_13 := bc_ HB hx253_13
                   replace p253 := eq_true p253
                   replace q253 := eq_true q253
                   go_wp2
                   go_ret
                   exact ⟨tE_, dL_ HB⟩
                 ·rw [if_neg c22] at H
                  exact absurd H (by simp)
                ·rw [if_neg c21] at H
                 exact absurd H (by simp)
               ·rw [if_neg c20] at H
                exact absurd H (by simp)
              ·rw [if_neg c19] at H
               exact absurd H (by simp)
             ·rw [if_neg c18] at H
              have c18b0 : decide (x48_3 < (l1.length : Int)) = false := decide_eq_false c18
              clear c18
              have HC24 := Aside0.mk H
              clear H
              go_upto_region 19 with (fail)
              go_cut [80] (fun v80 wc => ∃ (kq : Nat) (x80_23 : Bool), v80 = .bool x80_23 ∧ Aside0 (hinterlandref14_coupled.j4 kq x80_23 = some r) ∧ Aside0 (kq ≤ k3) ∧ Aside0 (Below w.heap.size w wc))
              case first =>
               have H := HC24.out
               clear HC24
               by_cases c25 : ((rd_T54 l0 (rd l1 0)).f1) = 0
               ·rw [if_pos c25] at H
                have c25b0 : (((rd_T54 l0 (rd l1 0)).f1) == 0) = true := beq_iff_eq.mpr c25
                have c25b1 : (((rd_T54 l0 (rd l1 0)).f1) != 0) = false := bne_eq_false_iff_eq.mpr c25
                clear c25
                (first | rw [c25b0] | (simp only [i64_w, i32_w]; rw [c25b0]) | skip)
                by_cases c26 : 0 < (l1.length : Int)
                ·rw [if_pos c26] at H
                 have c26b0 : decide (0 < (l1.length : Int)) = true := decide_eq_true c26
                 have c26b1 : decide (0 < l1.length) = true := decide_eq_true (by omega)
                 clear c26
                 by_cases c27 : 0 ≤ (rd l1 0)
                 ·rw [if_pos c27] at H
                  have c27b0 : decide (0 ≤ (rd l1 0)) = true := decide_eq_true c27
                  clear c27
                  by_cases c28 : (rd l1 0) < (l0.length : Int)
                  ·rw [if_pos c28] at H
                   have c28b0 : decide ((rd l1 0) < (l0.length : Int)) = true := decide_eq_true c28
                   clear c28
                   by_cases c29 : ((rd_T54 l0 (rd l1 0)).f3) = 0
                   ·rw [if_pos c29] at H
                    have c29b0 : (((rd_T54 l0 (rd l1 0)).f3) == 0) = true := beq_iff_eq.mpr c29
                    have c29b1 : (((rd_T54 l0 (rd l1 0)).f3) != 0) = false := bne_eq_false_iff_eq.mpr c29
                    clear c29
                    have H' := Aside0.mk H
                    clear H
                    have p254 : 0 ≤ (0 : Int) := (by omega)
                    have q254 : 0 < (l1.length : Int) := of_decide_eq_true tW_
                    obtain ⟨ad254, e254, hx254_0⟩ := Kd.at_int HR1.out 0 p254 q254
                    obtain rfl : ad250 = ad254 := (by injection e254)
                    have qi254 : (0 < l1.length) = True := eq_true (by omega)
                    (try rw [show ((0 : Int)).toNat = 0 from rfl] at hx254_0)
                    (try rw [Addr.add_zero'] at hx254_0)
                    replace hx254_0 := bc_ HB hx254_0
                    replace p254 := eq_true p254
                    replace q254 := eq_true q254
                    have p255 : 0 ≤ ((rd l1 0) : Int) := of_decide_eq_true tW_
                    have q255 : (rd l1 0) < (l0.length : Int) := of_decide_eq_true tW_
                    obtain ⟨ad255, e255, hx255_0, hx255_1, hx255_2, hx255_3, hx255_4, hx255_5, hx255_6, hx255_7, hx255_8, hx255_9, hx255_10, hx255_11, hx255_12, hx255_13⟩ := at_T54 HR0.out (rd l1 0) p255 q255
                    obtain rfl : ad251 = ad255 := (by injection e255)
                    replace hx255_0 := bc_ HB hx255_0
                    replace hx255_1 := bc_ HB hx255_1
                    replace hx255_2 := bc_ HB hx255_2
                    replace hx255_3 := bc_ HB hx255_3
                    replace hx255_4 := bc_ HB hx255_4
                    replace hx255_5 := bc_ HB hx255_5
                    replace hx255_6 := bc_ HB hx255_6
                    replace hx255_7 := bc_ HB hx255_7
                    replace hx255_8 := bc_ HB hx255_8
                    replace hx255_9 := bc_ HB hx255_9
                    replace hx255_10 := bc_ HB hx255_10
                    replace hx255_11 := bc_ HB hx255_11
                    replace hx255_12 := bc_ HB hx255_12
                    replace hx255_13 := bc_ HB hx255_13
                    replace p255 := eq_true p255
                    replace q255 := eq_true q255
                    go_wp2
                    go_meet
                    case rel => exact ⟨_, (true), tS_, H', ⟨by have := HJ4.out; have := HK2.out; have := HK3.out; first | omega | exact Nat.le_refl _⟩, ⟨dL_ HB⟩⟩
                   ·rw [if_neg c29] at H
                    have c29b0 : (((rd_T54 l0 (rd l1 0)).f3) == 0) = false := beq_eq_false_iff_ne.mpr c29
                    have c29b1 : (((rd_T54 l0 (rd l1 0)).f3) != 0) = true := bne_iff_ne.mpr c29
                    have H' := Aside0.mk H
                    clear H
                    have p254 : 0 ≤ (0 : Int) := (by omega)
                    have q254 : 0 < (l1.length : Int) := of_decide_eq_true tW_
                    obtain ⟨ad254, e254, hx254_0⟩ := Kd.at_int HR1.out 0 p254 q254
                    obtain rfl : ad250 = ad254 := (by injection e254)
                    have qi254 : (0 < l1.length) = True := eq_true (by omega)
                    (try rw [show ((0 : Int)).toNat = 0 from rfl] at hx254_0)
                    (try rw [Addr.add_zero'] at hx254_0)
                    replace hx254_0 := bc_ HB hx254_0
                    replace p254 := eq_true p254
                    replace q254 := eq_true q254
                    have p255 : 0 ≤ ((rd l1 0) : Int) := of_decide_eq_true tW_
                    have q255 : (rd l1 0) < (l0.length : Int) := of_decide_eq_true tW_
                    obtain ⟨ad255, e255, hx255_0, hx255_1, hx255_2, hx255_3, hx255_4, hx255_5, hx255_6, hx255_7, hx255_8, hx255_9, hx255_10, hx255_11, hx255_12, hx255_13⟩ := at_T54 HR0.out (rd l1 0) p255 q255
                    obtain rfl : ad251 = ad255 := (by injection e255)
                    replace hx255_0 := bc_ HB hx255_0
                    replace hx255_1 := bc_ HB hx255_1
                    replace hx255_2 := bc_ HB hx255_2
                    replace hx255_3 := bc_ HB hx255_3
                    replace hx255_4 := bc_ HB hx255_4
                    replace hx255_5 := bc_ HB hx255_5
                    replace hx255_6 := bc_ HB hx255_6
                    replace hx255_7 := bc_ HB hx255_7
                    replace hx255_8 := bc_ HB hx255_8
                    replace hx255_9 := bc_ HB hx255_9
                    replace hx255_10 := bc_ HB hx255_10
                    replace hx255_11 := bc_ HB hx255_11
                    replace hx255_12 := bc_ HB hx255_12
                    replace hx255_13 := bc_ HB hx255_13
                    replace p255 := eq_true p255
                    replace q255 := eq_true q255
                    go_wp2
                    go_meet
                    case rel => exact ⟨_, (false), tS_, H', ⟨by have := HJ4.out; have := HK2.out; have := HK3.out; first | omega | exact Nat.le_refl _⟩, ⟨dL_ HB⟩⟩
                  ·rw [if_neg c28] at H
                   exact absurd H (by simp)
                 ·rw [if_neg c27] at H
                  exact absurd H (by simp)
                ·rw [if_neg c26] at H
                 exact absurd H (by simp)
               ·rw [if_neg c25] at H
                have c25b0 : (((rd_T54 l0 (rd l1 0)).f1) == 0) = false := beq_eq_false_iff_ne.mpr c25
                have c25b1 : (((rd_T54 l0 (rd l1 0)).f1) != 0) = true := bne_iff_ne.mpr c25
                (first | rw [c25b0] | (simp only [i64_w, i32_w]; rw [c25b0]) | skip)
                have H' := Aside0.mk H
                clear H
                go_wp2
                go_meet
                case rel => exact ⟨_, (decide ((l1.length : Int) > 1)), tS_, H', ⟨by have := HJ4.out; have := HK2.out; have := HK3.out; first | omega | exact Nat.le_refl _⟩, ⟨dL_ HB⟩⟩
              case rest =>
               clear HC24
               try clear c1
               try clear c4
               try clear c4b0
               try clear c4b1
               try clear c7
               try clear c8
               try clear c9
               try clear c9b0
               try clear c10
               try clear c11
               try clear c13
               try clear c15
               try clear c15b0
               try clear c15b1
               try clear c16
               try clear c16b0
               try clear c17
               try clear c17b0
               try clear c18
               try clear c18b0
               try clear c19
               try clear c20
               try clear c21
               try clear c22
               try clear c23
               try clear c25
               try clear c26
               try clear c27
               try clear c28
               try clear c29
               try clear hx250_0
               try clear hx251_0
               try clear hx251_1
               try clear hx251_10
               try clear hx251_11
               try clear hx251_12
               try clear hx251_13
               try clear hx251_2
               try clear hx251_3
               try clear hx251_4
               try clear hx251_5
               try clear hx251_6
               try clear hx251_7
               try clear hx251_8
               try clear hx251_9
               try clear p250
               try clear p251
               try clear q250
               try clear q251
               obtain ⟨kq, x80_23, rfl, HA, HJ23, HB⟩ := hcut
               cases kq with
               | zero => exact absurd HA.out (by simp [hinterlandref14_coupled.j4])
               | succ kj23 =>
                have H := HA.out
                clear HA
                simp only [hinterlandref14_coupled.j4] at H
                by_cases c30 : x80_23 = true
                ·subst c30
                 have H1 : (some 8) = some r := by rw [if_pos rfl] at H; exact H
                 clear H
                 have H := H1
                 clear H1
                 obtain rfl := Option.some.inj H
                 go_wp2
                 go_ret
                 exact ⟨tE_, dL_ HB⟩
                ·replace c30 := Bool.eq_false_iff.mpr c30
                 subst c30
                 have H1 : (some 0) = some r := by rw [if_neg (show ¬ (false = true) by decide)] at H; exact H
                 clear H
                 have H := H1
                 clear H1
                 obtain rfl := Option.some.inj H
                 go_wp2
                 go_ret
                 exact ⟨tE_, dL_ HB⟩
          ·rw [if_neg c17] at H
           exact absurd H (by simp)
         ·rw [if_neg c16] at H
          exact absurd H (by simp)
        ·rw [if_neg c15] at H
         exact absurd H (by simp)
 ·rw [if_neg c4] at H
  have c4b0 : (t248 == 0) = false := beq_eq_false_iff_ne.mpr c4
  have c4b1 : (t248 != 0) = true := bne_iff_ne.mpr c4
  obtain rfl := Option.some.inj H
  go_enter Try.func40, Try.ntmps40
  go_wp2_with (first | ((with_reducible refine gate_callee (f := 18) rfl ?_); refine goesL_ (some 12) rfl rfl Try.func18 (by kernel_rfl) rfl #[.slice A0 l0.length c0] rfl tA_ ?_; (with_reducible refine (hinterlandref14_ValidateModels.calls k _ _ l0 t248 _ ?side1 ?side2 A3.out).mono ?_); (case side1 => repeat (first | exact HR0.out | (with_reducible refine Kd.C_alloc ?_ _) | (with_reducible refine Kd.C_drewN ?_ _) | (with_reducible refine Kd.C_drew ?_))); (case side2 => exact HC0.out); rintro e w31 ⟨rfl, hb⟩; refine ⟨_, rfl, ?_⟩; have n0_ := Aside0.mk (below_step (dL_ HB) hb); clear HB; have HB := n0_; clear n0_; (try clear hb); (try clear hb2); (try clear hk); (try clear hi)))
  go_ret
  exact ⟨tE_, dL_ HB⟩

end Go.Proofs.Ytgnahbjpockdmaa.Q
