-- PRINTED by print.py (a twelfth state) out of the translation. Not trusted: Lean checks it.
import Derived.Test.YtnkgelnkoljgdaaPrs
import Derived.Test.YtnkgelnkoljgdaaQ0
import Derived.Test.YtnkgelnkoljgdaaQ7
namespace Go.Proofs.Ytnkgelnkoljgdaa.Q
open Go.RowKit Go.Proofs.YtnkgelnkoljgdaaPrs Go.Proofs.YtnkgelnkoljgdaaOwn Go.Proofs.YtnkgelnkoljgdaaW.PrintWords Go.Proofs.YtnkgelnkoljgdaaW.PrintLast Go.Proofs.YtnkgelnkoljgdaaW.PrintMore
attribute [local go_sem] max2_int min2_int max_two min_two max_three min_three max_four min_four   -- for this text's walks alone
set_option linter.unusedVariables false
set_option linter.unusedSimpArgs false

/-! ### plant_argued: function 38 -/
def plant_argued.j0 : Nat → Bool → Option (Int)
  | 0, _ => none
  | k + 1, x29 => if x29 = true then (some 1) else (some 0)
def plant_argued.f (k : Nat) (l0 : List (S39)) (a1_0 : Int) (a1_1 : Int) (a1_2 : Int) (l1_3 : List Int) (l1_4 : List Int) (l1_5 : List Int) (l1_6 : List Int) (a1_7 : Int) (a1_8 : Int) (a1_9 : Bool) (a2 : Int) (a3 : Int) : Option (Int) := (plant_Validate.f k l0 a1_0 a1_1 a1_2 l1_3 l1_4 l1_5 l1_6 a1_7 a1_8 a1_9).bind fun t139 => (if t139 = 0 then (if a3 < 0 then (plant_argued.j0 k true) else (if a3 > 1000000 then (plant_argued.j0 k true) else (if a2 < 0 then (plant_argued.j0 k true) else (plant_argued.j0 k (decide (a2 ≥ 16)))))) else (some t139))
theorem plant_argued.mono_l : ∀ k, (∀ y0, LeO (plant_argued.j0 k y0) (plant_argued.j0 (k + 1) y0))
  | 0 => fun _ r h => by simp [plant_argued.j0] at h
  | k + 1 => by
    have ih0 := plant_argued.mono_l k
    · intro y0
      unfold plant_argued.j0
      repeat' first
      | (with_reducible first | exact ih0 _ | exact plant_Validate.mono _ _ _ _ _ _ _ _ _ _ _ _ | exact LeO.refl _ | exact LeO.none _ | refine LeO.ite ?_ ?_ | refine LeO.bind ?_ (fun _ => ?_))
      | exact ih0 _
      | exact plant_Validate.mono _ _ _ _ _ _ _ _ _ _ _ _
      | exact LeO.none _
      | refine LeO.ite ?_ ?_
      | refine LeO.bind ?_ (fun _ => ?_)
theorem plant_argued.mono : ∀ a0 a1 a2 a3 a4 a5 a6 a7 a8 a9 a10 a11 a12 k, LeO (plant_argued.f k a0 a1 a2 a3 a4 a5 a6 a7 a8 a9 a10 a11 a12) (plant_argued.f (k + 1) a0 a1 a2 a3 a4 a5 a6 a7 a8 a9 a10 a11 a12) := by
  intro a0 a1 a2 a3 a4 a5 a6 a7 a8 a9 a10 a11 a12 k
  have ih0 := plant_argued.mono_l k
  unfold plant_argued.f
  repeat' first
      | (with_reducible first | exact ih0 _ | exact plant_Validate.mono _ _ _ _ _ _ _ _ _ _ _ _ | exact LeO.refl _ | exact LeO.none _ | refine LeO.ite ?_ ?_ | refine LeO.bind ?_ (fun _ => ?_))
      | exact ih0 _
      | exact plant_Validate.mono _ _ _ _ _ _ _ _ _ _ _ _
      | exact LeO.none _
      | refine LeO.ite ?_ ?_
      | refine LeO.bind ?_ (fun _ => ?_)
set_option maxHeartbeats 8000000 in
set_option maxRecDepth 100000 in
theorem plant_argued.calls (k : Nat) (A0 : Option Addr) (c0 : Nat) (l0 : List (S39)) (a1_0 : Int) (a1_1 : Int) (a1_2 : Int) (A1_3 : Option Addr) (c1_3 : Nat) (l1_3 : List Int) (A1_4 : Option Addr) (c1_4 : Nat) (l1_4 : List Int) (A1_5 : Option Addr) (c1_5 : Nat) (l1_5 : List Int) (A1_6 : Option Addr) (c1_6 : Nat) (l1_6 : List Int) (a1_7 : Int) (a1_8 : Int) (a1_9 : Bool) (a2 : Int) (a3 : Int) (r : Int) (w : World) (hr0 : Kd.C k39 w A0 l0.length l0) (hc0 : l0.length ≤ c0) (hr1_3 : Kd.C (Kd.int .i64) w A1_3 l1_3.length l1_3) (hc1_3 : l1_3.length ≤ c1_3) (hr1_4 : Kd.C (Kd.int .i64) w A1_4 l1_4.length l1_4) (hc1_4 : l1_4.length ≤ c1_4) (hr1_5 : Kd.C (Kd.int .i64) w A1_5 l1_5.length l1_5) (hc1_5 : l1_5.length ≤ c1_5) (hr1_6 : Kd.C (Kd.int .i64) w A1_6 l1_6.length l1_6) (hc1_6 : l1_6.length ≤ c1_6) (h : plant_argued.f k l0 a1_0 a1_1 a1_2 l1_3 l1_4 l1_5 l1_6 a1_7 a1_8 a1_9 a2 a3 = some r) :
    Calls Try.prog 38 #[.slice A0 l0.length c0, .agg #[.int .i64 a1_0, .int .i64 a1_1, .int .i64 a1_2, .slice A1_3 l1_3.length c1_3, .slice A1_4 l1_4.length c1_4, .slice A1_5 l1_5.length c1_5, .slice A1_6 l1_6.length c1_6, .int .i64 a1_7, .int .i64 a1_8, .bool a1_9], .int .i64 a2, .int .i64 a3] w fun e w' => e = .returned (.int .i64 r) ∧ Below w.heap.size w w' := by
 have hu25 := Try.underlying25
 have HR0 := Aside0.mk hr0
 have HC0 := Aside0.mk hc0
 clear hr0 hc0
 have HR1_3 := Aside0.mk hr1_3
 have HC1_3 := Aside0.mk hc1_3
 clear hr1_3 hc1_3
 have HR1_4 := Aside0.mk hr1_4
 have HC1_4 := Aside0.mk hc1_4
 clear hr1_4 hc1_4
 have HR1_5 := Aside0.mk hr1_5
 have HC1_5 := Aside0.mk hc1_5
 clear hr1_5 hc1_5
 have HR1_6 := Aside0.mk hr1_6
 have HC1_6 := Aside0.mk hc1_6
 clear hr1_6 hc1_6
 have HB := Aside0.mk (Below.refl w.heap.size w)
 have H : ((plant_Validate.f k l0 a1_0 a1_1 a1_2 l1_3 l1_4 l1_5 l1_6 a1_7 a1_8 a1_9).bind fun t139 => (if t139 = 0 then (if a3 < 0 then (plant_argued.j0 k true) else (if a3 > 1000000 then (plant_argued.j0 k true) else (if a2 < 0 then (plant_argued.j0 k true) else (plant_argued.j0 k (decide (a2 ≥ 16)))))) else (some t139))) = some r := h
 clear h
 replace H := Option.bind_eq_some_iff.mp H
 obtain ⟨t139, A50, H⟩ := H
 replace H : (if t139 = 0 then (if a3 < 0 then (plant_argued.j0 k true) else (if a3 > 1000000 then (plant_argued.j0 k true) else (if a2 < 0 then (plant_argued.j0 k true) else (plant_argued.j0 k (decide (a2 ≥ 16)))))) else (some t139)) = some r := H
 have A5 := Aside0.mk A50
 clear A50
 by_cases c6 : t139 = 0
 ·rw [if_pos c6] at H
  have c6b0 : (t139 == 0) = true := beq_iff_eq.mpr c6
  have c6b1 : (t139 != 0) = false := bne_eq_false_iff_eq.mpr c6
  clear c6
  have HC7 := Aside0.mk H
  clear H
  go_enter Try.func38, Try.ntmps38
  go_upto_region 4 with (first | ((with_reducible refine gate_dst (N := 5) rfl ?_); refine box_event ?hg (N := 5) ?hd (cs := #[.int .i64 a1_0, .int .i64 a1_1, .int .i64 a1_2, .slice A1_3 l1_3.length c1_3, .slice A1_4 l1_4.length c1_4, .slice A1_5 l1_5.length c1_5, .slice A1_6 l1_6.length c1_6, .int .i64 a1_7, .int .i64 a1_8, .bool a1_9]) (t := 25) ?hr ?_; (case hd => rfl); (case hg => rfl); (case hr => first | (go_simp; done) | (go_simp; rfl)); intro gb138 hg w8 hbox hb; have BK138 := Aside0.mk (hbox); have GW138 := Aside0.mk ((dS_ hg (dL_ HB) : w.heap.size ≤ gb138)); have GE138 := Aside0.mk ((dS_ hg (dL_ HB) : w.heap.size ≤ gb138)); replace HB := Aside0.mk (below_step (dL_ HB) hb); clear hb hbox hg; obtain ⟨hcz9_0, hcz9_1, hcz9_2, hcz9_3, hcz9_4, hcz9_5, hcz9_6, hcz9_7, hcz9_8, hcz9_9, hfz9_0, hfz9_1, hfz9_2, hfz9_3, hfz9_4, hfz9_5, hfz9_6, hfz9_7, hfz9_8, hfz9_9⟩ := cs10_ BK138.out) | ((with_reducible refine gate_callee (f := 15) rfl ?_); refine goesL_ (some 12) rfl rfl Try.func15 (by kernel_rfl) rfl #[.slice A0 l0.length c0, .agg #[.int .i64 a1_0, .int .i64 a1_1, .int .i64 a1_2, .slice A1_3 l1_3.length c1_3, .slice A1_4 l1_4.length c1_4, .slice A1_5 l1_5.length c1_5, .slice A1_6 l1_6.length c1_6, .int .i64 a1_7, .int .i64 a1_8, .bool a1_9]] rfl tA_ ?_; (with_reducible refine (plant_Validate.calls k _ _ l0 a1_0 a1_1 a1_2 _ _ l1_3 _ _ l1_4 _ _ l1_5 _ _ l1_6 a1_7 a1_8 a1_9 t139 _ ?side1 ?side2 ?side3 ?side4 ?side5 ?side6 ?side7 ?side8 ?side9 ?side10 A5.out).mono ?_); (case side1 => exact dC_ HR0 HB); (case side2 => exact HC0.out); (case side3 => exact dC_ HR1_3 HB); (case side4 => exact HC1_3.out); (case side5 => exact dC_ HR1_4 HB); (case side6 => exact HC1_4.out); (case side7 => exact dC_ HR1_5 HB); (case side8 => exact HC1_5.out); (case side9 => exact dC_ HR1_6 HB); (case side10 => exact HC1_6.out); rintro e w10 ⟨rfl, hb⟩; refine ⟨_, rfl, ?_⟩; replace BK138 := Aside0.mk (blk_below (g := gb138) (o := .cells #[.int .i64 a1_0, .int .i64 a1_1, .int .i64 a1_2, .slice A1_3 l1_3.length c1_3, .slice A1_4 l1_4.length c1_4, .slice A1_5 l1_5.length c1_5, .slice A1_6 l1_6.length c1_6, .int .i64 a1_7, .int .i64 a1_8, .bool a1_9] 25 (0, 0)) (dB_ BK138) hb); replace HB := Aside0.mk (below_step (dL1_ HB GE138) hb)))
  (try simp only [Act.put, List.setIfInBounds_toArray, List.set_cons_zero, List.set_cons_succ])
  go_cut [29] (fun v29 wc => ∃ (kq : Nat) (x29_6 : Bool), v29 = .bool x29_6 ∧ Aside0 (plant_argued.j0 kq x29_6 = some r) ∧ Aside0 (kq ≤ k) ∧ Aside0 (wc.heap[gb138]? = some (.cells #[.int .i64 a1_0, .int .i64 a1_1, .int .i64 a1_2, (.slice A1_3 l1_3.length c1_3), (.slice A1_4 l1_4.length c1_4), (.slice A1_5 l1_5.length c1_5), (.slice A1_6 l1_6.length c1_6), .int .i64 a1_7, .int .i64 a1_8, .bool a1_9] 25 (0, 0))) ∧ Aside0 (Below w.heap.size w wc))
  case first =>
   have H := HC7.out
   clear HC7
   by_cases c11 : a3 < 0
   ·rw [if_pos c11] at H
    have c11b0 : decide (a3 < 0) = true := decide_eq_true c11
    clear c11
    (first | rw [c11b0] | (simp only [i64_w, i32_w]; rw [c11b0]) | skip)
    have H' := Aside0.mk H
    clear H
    go_wp2
    go_meet
    case rel => exact ⟨_, (true), tS_, H', ⟨by first | omega | exact Nat.le_refl _⟩, ⟨dB_ BK138⟩, ⟨dL1_ HB GE138⟩⟩
   ·rw [if_neg c11] at H
    have c11b0 : decide (a3 < 0) = false := decide_eq_false c11
    clear c11
    (first | rw [c11b0] | (simp only [i64_w, i32_w]; rw [c11b0]) | skip)
    by_cases c12 : a3 > 1000000
    ·rw [if_pos c12] at H
     have c12b0 : decide (1000000 < a3) = true := decide_eq_true c12
     clear c12
     have H' := Aside0.mk H
     clear H
     go_wp2
     go_meet
     case rel => exact ⟨_, (true), tS_, H', ⟨by first | omega | exact Nat.le_refl _⟩, ⟨dB_ BK138⟩, ⟨dL1_ HB GE138⟩⟩
    ·rw [if_neg c12] at H
     have c12b0 : decide (1000000 < a3) = false := decide_eq_false c12
     clear c12
     by_cases c13 : a2 < 0
     ·rw [if_pos c13] at H
      have c13b0 : decide (a2 < 0) = true := decide_eq_true c13
      clear c13
      have H' := Aside0.mk H
      clear H
      go_wp2
      go_meet
      case rel => exact ⟨_, (true), tS_, H', ⟨by first | omega | exact Nat.le_refl _⟩, ⟨dB_ BK138⟩, ⟨dL1_ HB GE138⟩⟩
     ·rw [if_neg c13] at H
      have c13b0 : decide (a2 < 0) = false := decide_eq_false c13
      clear c13
      have H' := Aside0.mk H
      clear H
      go_wp2
      go_meet
      case rel => exact ⟨_, (decide (a2 ≥ 16)), tS_, H', ⟨by first | omega | exact Nat.le_refl _⟩, ⟨dB_ BK138⟩, ⟨dL1_ HB GE138⟩⟩
  case rest =>
   clear HC7
   try clear c6
   try clear c6b0
   try clear c6b1
   try clear c11
   try clear c12
   try clear c13
   try clear hcz9_0
   try clear hcz9_1
   try clear hcz9_2
   try clear hcz9_3
   try clear hcz9_4
   try clear hcz9_5
   try clear hcz9_6
   try clear hcz9_7
   try clear hcz9_8
   try clear hcz9_9
   try clear hfz9_0
   try clear hfz9_1
   try clear hfz9_2
   try clear hfz9_3
   try clear hfz9_4
   try clear hfz9_5
   try clear hfz9_6
   try clear hfz9_7
   try clear hfz9_8
   try clear hfz9_9
   obtain ⟨kq, x29_6, rfl, HA, HJ6, BK138, HB⟩ := hcut
   cases kq with
   | zero => exact absurd HA.out (by simp [plant_argued.j0])
   | succ kj6 =>
    have H := HA.out
    clear HA
    simp only [plant_argued.j0] at H
    by_cases c14 : x29_6 = true
    ·subst c14
     have H1 : (some 1) = some r := by rw [if_pos rfl] at H; exact H
     clear H
     have H := H1
     clear H1
     obtain rfl := Option.some.inj H
     go_wp2
     go_ret
     exact ⟨tE_, dL1_ HB GE138⟩
    ·replace c14 := Bool.eq_false_iff.mpr c14
     subst c14
     have H1 : (some 0) = some r := by rw [if_neg (show ¬ (false = true) by decide)] at H; exact H
     clear H
     have H := H1
     clear H1
     obtain rfl := Option.some.inj H
     go_wp2
     go_ret
     exact ⟨tE_, dL1_ HB GE138⟩
 ·rw [if_neg c6] at H
  have c6b0 : (t139 == 0) = false := beq_eq_false_iff_ne.mpr c6
  have c6b1 : (t139 != 0) = true := bne_iff_ne.mpr c6
  obtain rfl := Option.some.inj H
  go_enter Try.func38, Try.ntmps38
  go_wp2_with (first | ((with_reducible refine gate_dst (N := 5) rfl ?_); refine box_event ?hg (N := 5) ?hd (cs := #[.int .i64 a1_0, .int .i64 a1_1, .int .i64 a1_2, .slice A1_3 l1_3.length c1_3, .slice A1_4 l1_4.length c1_4, .slice A1_5 l1_5.length c1_5, .slice A1_6 l1_6.length c1_6, .int .i64 a1_7, .int .i64 a1_8, .bool a1_9]) (t := 25) ?hr ?_; (case hd => rfl); (case hg => rfl); (case hr => first | (go_simp; done) | (go_simp; rfl)); intro gb138 hg w15 hbox hb; have BK138 := Aside0.mk (hbox); have GW138 := Aside0.mk ((dS_ hg (dL_ HB) : w.heap.size ≤ gb138)); have GE138 := Aside0.mk ((dS_ hg (dL_ HB) : w.heap.size ≤ gb138)); replace HB := Aside0.mk (below_step (dL_ HB) hb); clear hb hbox hg; obtain ⟨hcz16_0, hcz16_1, hcz16_2, hcz16_3, hcz16_4, hcz16_5, hcz16_6, hcz16_7, hcz16_8, hcz16_9, hfz16_0, hfz16_1, hfz16_2, hfz16_3, hfz16_4, hfz16_5, hfz16_6, hfz16_7, hfz16_8, hfz16_9⟩ := cs10_ BK138.out) | ((with_reducible refine gate_callee (f := 15) rfl ?_); refine goesL_ (some 12) rfl rfl Try.func15 (by kernel_rfl) rfl #[.slice A0 l0.length c0, .agg #[.int .i64 a1_0, .int .i64 a1_1, .int .i64 a1_2, .slice A1_3 l1_3.length c1_3, .slice A1_4 l1_4.length c1_4, .slice A1_5 l1_5.length c1_5, .slice A1_6 l1_6.length c1_6, .int .i64 a1_7, .int .i64 a1_8, .bool a1_9]] rfl tA_ ?_; (with_reducible refine (plant_Validate.calls k _ _ l0 a1_0 a1_1 a1_2 _ _ l1_3 _ _ l1_4 _ _ l1_5 _ _ l1_6 a1_7 a1_8 a1_9 t139 _ ?side1 ?side2 ?side3 ?side4 ?side5 ?side6 ?side7 ?side8 ?side9 ?side10 A5.out).mono ?_); (case side1 => exact dC_ HR0 HB); (case side2 => exact HC0.out); (case side3 => exact dC_ HR1_3 HB); (case side4 => exact HC1_3.out); (case side5 => exact dC_ HR1_4 HB); (case side6 => exact HC1_4.out); (case side7 => exact dC_ HR1_5 HB); (case side8 => exact HC1_5.out); (case side9 => exact dC_ HR1_6 HB); (case side10 => exact HC1_6.out); rintro e w17 ⟨rfl, hb⟩; refine ⟨_, rfl, ?_⟩; replace BK138 := Aside0.mk (blk_below (g := gb138) (o := .cells #[.int .i64 a1_0, .int .i64 a1_1, .int .i64 a1_2, .slice A1_3 l1_3.length c1_3, .slice A1_4 l1_4.length c1_4, .slice A1_5 l1_5.length c1_5, .slice A1_6 l1_6.length c1_6, .int .i64 a1_7, .int .i64 a1_8, .bool a1_9] 25 (0, 0)) (dB_ BK138) hb); replace HB := Aside0.mk (below_step (dL1_ HB GE138) hb)))
  go_ret
  exact ⟨tE_, dL1_ HB GE138⟩

end Go.Proofs.Ytnkgelnkoljgdaa.Q
