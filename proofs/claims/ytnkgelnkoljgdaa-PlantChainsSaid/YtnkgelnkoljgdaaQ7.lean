-- PRINTED by print.py (a twelfth state) out of the translation. Not trusted: Lean checks it.
import Derived.Test.YtnkgelnkoljgdaaPrs
import Derived.Test.YtnkgelnkoljgdaaQ0
import Derived.Test.YtnkgelnkoljgdaaQ4
import Derived.Test.YtnkgelnkoljgdaaQ6
namespace Go.Proofs.Ytnkgelnkoljgdaa.Q
open Go.RowKit Go.Proofs.YtnkgelnkoljgdaaPrs Go.Proofs.YtnkgelnkoljgdaaOwn Go.Proofs.YtnkgelnkoljgdaaW.PrintWords Go.Proofs.YtnkgelnkoljgdaaW.PrintLast Go.Proofs.YtnkgelnkoljgdaaW.PrintMore
attribute [local go_sem] max2_int min2_int max_two min_two max_three min_three max_four min_four   -- for this text's walks alone
set_option linter.unusedVariables false
set_option linter.unusedSimpArgs false

/-! ### plant_Validate: function 15 -/
mutual
def plant_Validate.j0 : Nat → List (S39) → Bool → Int → Int → Int → List Int → List Int → List Int → List Int → Int → Int → Bool → Option (Int)
  | 0, _, _, _, _, _, _, _, _, _, _, _, _ => none
  | k + 1, x0, x21, x128000, x128001, x128002, x128003, x128004, x128005, x128006, x128007, x128008, x128009 => if x21 = true then (some 2) else (if 0 ≤ x128000 then (if x128000 < (x0.length : Int) then (if x128001 < 0 then (plant_Validate.j1 k true x128000 x128001 x128002 x128003 x128004 x128005 x128006 x128007 x128008 x128009) else (if x128001 > 1000000 then (plant_Validate.j1 k true x128000 x128001 x128002 x128003 x128004 x128005 x128006 x128007 x128008 x128009) else (if x128002 < 1 then (plant_Validate.j1 k true x128000 x128001 x128002 x128003 x128004 x128005 x128006 x128007 x128008 x128009) else (if x128002 > 64 then (plant_Validate.j1 k true x128000 x128001 x128002 x128003 x128004 x128005 x128006 x128007 x128008 x128009) else (if (x128003.length : Int) = (((rd_T39 x0 x128000).f2).length : Int) then (if (x128004.length : Int) = (((rd_T39 x0 x128000).f2).length : Int) then (if (x128005.length : Int) = (((rd_T39 x0 x128000).f2).length : Int) then (plant_Validate.j1 k ((x128006.length : Int) != (((rd_T39 x0 x128000).f2).length : Int)) x128000 x128001 x128002 x128003 x128004 x128005 x128006 x128007 x128008 x128009) else (plant_Validate.j1 k true x128000 x128001 x128002 x128003 x128004 x128005 x128006 x128007 x128008 x128009)) else (plant_Validate.j1 k true x128000 x128001 x128002 x128003 x128004 x128005 x128006 x128007 x128008 x128009)) else (plant_Validate.j1 k true x128000 x128001 x128002 x128003 x128004 x128005 x128006 x128007 x128008 x128009)))))) else (none)) else (none))
def plant_Validate.j1 : Nat → Bool → Int → Int → Int → List Int → List Int → List Int → List Int → Int → Int → Bool → Option (Int)
  | 0, _, _, _, _, _, _, _, _, _, _, _ => none
  | k + 1, x74, x128000, x128001, x128002, x128003, x128004, x128005, x128006, x128007, x128008, x128009 => if x74 = true then (some 1) else ((plant_within.f k 1000000 x128003).bind fun t130 => (if t130 = true then ((plant_within.f k 7 x128004).bind fun t131 => (if t131 = true then ((plant_within.f k 1000000 x128005).bind fun t132 => (if t132 = true then ((plant_within.f k 1000000 x128006).bind fun t133 => (if t133 = true then ((plant_within.f k 1000000 (([x128007, x128008] : List Int))).bind fun t137 => (plant_Validate.j2 k (!t137))) else (plant_Validate.j2 k true))) else (plant_Validate.j2 k true))) else (plant_Validate.j2 k true))) else (plant_Validate.j2 k true)))
def plant_Validate.j2 : Nat → Bool → Option (Int)
  | 0, _ => none
  | k + 1, x105 => if x105 = true then (some 1) else (some 0)
end
def plant_Validate.f (k : Nat) (l0 : List (S39)) (a1_0 : Int) (a1_1 : Int) (a1_2 : Int) (l1_3 : List Int) (l1_4 : List Int) (l1_5 : List Int) (l1_6 : List Int) (a1_7 : Int) (a1_8 : Int) (a1_9 : Bool) : Option (Int) := (plant_ValidateKinds.f k l0).bind fun t128 => (if t128 = 0 then (if a1_0 < 0 then (plant_Validate.j0 k l0 true a1_0 a1_1 a1_2 l1_3 l1_4 l1_5 l1_6 a1_7 a1_8 a1_9) else (plant_Validate.j0 k l0 (decide (a1_0 ≥ (l0.length : Int))) a1_0 a1_1 a1_2 l1_3 l1_4 l1_5 l1_6 a1_7 a1_8 a1_9)) else (some t128))
theorem plant_Validate.mono_l : ∀ k, (∀ y0 y1 y2 y3 y4 y5 y6 y7 y8 y9 y10 y11, LeO (plant_Validate.j0 k y0 y1 y2 y3 y4 y5 y6 y7 y8 y9 y10 y11) (plant_Validate.j0 (k + 1) y0 y1 y2 y3 y4 y5 y6 y7 y8 y9 y10 y11)) ∧ (∀ y0 y1 y2 y3 y4 y5 y6 y7 y8 y9 y10, LeO (plant_Validate.j1 k y0 y1 y2 y3 y4 y5 y6 y7 y8 y9 y10) (plant_Validate.j1 (k + 1) y0 y1 y2 y3 y4 y5 y6 y7 y8 y9 y10)) ∧ (∀ y0, LeO (plant_Validate.j2 k y0) (plant_Validate.j2 (k + 1) y0))
  | 0 => ⟨fun _ _ _ _ _ _ _ _ _ _ _ _ r h => by simp [plant_Validate.j0] at h, fun _ _ _ _ _ _ _ _ _ _ _ r h => by simp [plant_Validate.j1] at h, fun _ r h => by simp [plant_Validate.j2] at h⟩
  | k + 1 => by
    obtain ⟨ih0, ih1, ih2⟩ := plant_Validate.mono_l k
    refine ⟨?_, ?_, ?_⟩
    · intro y0 y1 y2 y3 y4 y5 y6 y7 y8 y9 y10 y11
      unfold plant_Validate.j0
      repeat' first
      | (with_reducible first | exact ih0 _ _ _ _ _ _ _ _ _ _ _ _ | exact ih1 _ _ _ _ _ _ _ _ _ _ _ | exact ih2 _ | exact plant_ValidateKinds.mono _ _ | exact plant_within.mono _ _ _ | exact LeO.refl _ | exact LeO.none _ | refine LeO.ite ?_ ?_ | refine LeO.bind ?_ (fun _ => ?_))
      | exact ih0 _ _ _ _ _ _ _ _ _ _ _ _
      | exact ih1 _ _ _ _ _ _ _ _ _ _ _
      | exact ih2 _
      | exact plant_ValidateKinds.mono _ _
      | exact plant_within.mono _ _ _
      | exact LeO.none _
      | refine LeO.ite ?_ ?_
      | refine LeO.bind ?_ (fun _ => ?_)
    · intro y0 y1 y2 y3 y4 y5 y6 y7 y8 y9 y10
      unfold plant_Validate.j1
      repeat' first
      | (with_reducible first | exact ih0 _ _ _ _ _ _ _ _ _ _ _ _ | exact ih1 _ _ _ _ _ _ _ _ _ _ _ | exact ih2 _ | exact plant_ValidateKinds.mono _ _ | exact plant_within.mono _ _ _ | exact LeO.refl _ | exact LeO.none _ | refine LeO.ite ?_ ?_ | refine LeO.bind ?_ (fun _ => ?_))
      | exact ih0 _ _ _ _ _ _ _ _ _ _ _ _
      | exact ih1 _ _ _ _ _ _ _ _ _ _ _
      | exact ih2 _
      | exact plant_ValidateKinds.mono _ _
      | exact plant_within.mono _ _ _
      | exact LeO.none _
      | refine LeO.ite ?_ ?_
      | refine LeO.bind ?_ (fun _ => ?_)
    · intro y0
      unfold plant_Validate.j2
      repeat' first
      | (with_reducible first | exact ih0 _ _ _ _ _ _ _ _ _ _ _ _ | exact ih1 _ _ _ _ _ _ _ _ _ _ _ | exact ih2 _ | exact plant_ValidateKinds.mono _ _ | exact plant_within.mono _ _ _ | exact LeO.refl _ | exact LeO.none _ | refine LeO.ite ?_ ?_ | refine LeO.bind ?_ (fun _ => ?_))
      | exact ih0 _ _ _ _ _ _ _ _ _ _ _ _
      | exact ih1 _ _ _ _ _ _ _ _ _ _ _
      | exact ih2 _
      | exact plant_ValidateKinds.mono _ _
      | exact plant_within.mono _ _ _
      | exact LeO.none _
      | refine LeO.ite ?_ ?_
      | refine LeO.bind ?_ (fun _ => ?_)
theorem plant_Validate.mono : ∀ a0 a1 a2 a3 a4 a5 a6 a7 a8 a9 a10 k, LeO (plant_Validate.f k a0 a1 a2 a3 a4 a5 a6 a7 a8 a9 a10) (plant_Validate.f (k + 1) a0 a1 a2 a3 a4 a5 a6 a7 a8 a9 a10) := by
  intro a0 a1 a2 a3 a4 a5 a6 a7 a8 a9 a10 k
  obtain ⟨ih0, ih1, ih2⟩ := plant_Validate.mono_l k
  unfold plant_Validate.f
  repeat' first
      | (with_reducible first | exact ih0 _ _ _ _ _ _ _ _ _ _ _ _ | exact ih1 _ _ _ _ _ _ _ _ _ _ _ | exact ih2 _ | exact plant_ValidateKinds.mono _ _ | exact plant_within.mono _ _ _ | exact LeO.refl _ | exact LeO.none _ | refine LeO.ite ?_ ?_ | refine LeO.bind ?_ (fun _ => ?_))
      | exact ih0 _ _ _ _ _ _ _ _ _ _ _ _
      | exact ih1 _ _ _ _ _ _ _ _ _ _ _
      | exact ih2 _
      | exact plant_ValidateKinds.mono _ _
      | exact plant_within.mono _ _ _
      | exact LeO.none _
      | refine LeO.ite ?_ ?_
      | refine LeO.bind ?_ (fun _ => ?_)
set_option maxHeartbeats 8000000 in
set_option maxRecDepth 100000 in
theorem plant_Validate.calls (k : Nat) (A0 : Option Addr) (c0 : Nat) (l0 : List (S39)) (a1_0 : Int) (a1_1 : Int) (a1_2 : Int) (A1_3 : Option Addr) (c1_3 : Nat) (l1_3 : List Int) (A1_4 : Option Addr) (c1_4 : Nat) (l1_4 : List Int) (A1_5 : Option Addr) (c1_5 : Nat) (l1_5 : List Int) (A1_6 : Option Addr) (c1_6 : Nat) (l1_6 : List Int) (a1_7 : Int) (a1_8 : Int) (a1_9 : Bool) (r : Int) (w : World) (hr0 : Kd.C k39 w A0 l0.length l0) (hc0 : l0.length ≤ c0) (hr1_3 : Kd.C (Kd.int .i64) w A1_3 l1_3.length l1_3) (hc1_3 : l1_3.length ≤ c1_3) (hr1_4 : Kd.C (Kd.int .i64) w A1_4 l1_4.length l1_4) (hc1_4 : l1_4.length ≤ c1_4) (hr1_5 : Kd.C (Kd.int .i64) w A1_5 l1_5.length l1_5) (hc1_5 : l1_5.length ≤ c1_5) (hr1_6 : Kd.C (Kd.int .i64) w A1_6 l1_6.length l1_6) (hc1_6 : l1_6.length ≤ c1_6) (h : plant_Validate.f k l0 a1_0 a1_1 a1_2 l1_3 l1_4 l1_5 l1_6 a1_7 a1_8 a1_9 = some r) :
    Calls Try.prog 15 #[.slice A0 l0.length c0, .agg #[.int .i64 a1_0, .int .i64 a1_1, .int .i64 a1_2, .slice A1_3 l1_3.length c1_3, .slice A1_4 l1_4.length c1_4, .slice A1_5 l1_5.length c1_5, .slice A1_6 l1_6.length c1_6, .int .i64 a1_7, .int .i64 a1_8, .bool a1_9]] w fun e w' => e = .returned (.int .i64 r) ∧ Below w.heap.size w w' := by
 have hu25 := Try.underlying25
 have HR0 := Aside0.mk hr0
 have HC0 := Aside0.mk hc0
 clear hr0 hc0
 have HR1_3 := Aside0.mk hr1_3
 have HC1_3 := Aside0.mk hc1_3
 clear hr1_3 hc1_3
 have HR1_4 := Aside0.mk hr1_4
 have HC1_4 := Aside0.mk hc1_4
 clear hr1_4 hc1_4
 have HR1_5 := Aside0.mk hr1_5
 have HC1_5 := Aside0.mk hc1_5
 clear hr1_5 hc1_5
 have HR1_6 := Aside0.mk hr1_6
 have HC1_6 := Aside0.mk hc1_6
 clear hr1_6 hc1_6
 have HB := Aside0.mk (Below.refl w.heap.size w)
 have H : ((plant_ValidateKinds.f k l0).bind fun t128 => (if t128 = 0 then (if a1_0 < 0 then (plant_Validate.j0 k l0 true a1_0 a1_1 a1_2 l1_3 l1_4 l1_5 l1_6 a1_7 a1_8 a1_9) else (plant_Validate.j0 k l0 (decide (a1_0 ≥ (l0.length : Int))) a1_0 a1_1 a1_2 l1_3 l1_4 l1_5 l1_6 a1_7 a1_8 a1_9)) else (some t128))) = some r := h
 clear h
 replace H := Option.bind_eq_some_iff.mp H
 obtain ⟨t128, A30, H⟩ := H
 replace H : (if t128 = 0 then (if a1_0 < 0 then (plant_Validate.j0 k l0 true a1_0 a1_1 a1_2 l1_3 l1_4 l1_5 l1_6 a1_7 a1_8 a1_9) else (plant_Validate.j0 k l0 (decide (a1_0 ≥ (l0.length : Int))) a1_0 a1_1 a1_2 l1_3 l1_4 l1_5 l1_6 a1_7 a1_8 a1_9)) else (some t128)) = some r := H
 have A3 := Aside0.mk A30
 clear A30
 by_cases c4 : t128 = 0
 ·rw [if_pos c4] at H
  have c4b0 : (t128 == 0) = true := beq_iff_eq.mpr c4
  have c4b1 : (t128 != 0) = false := bne_eq_false_iff_eq.mpr c4
  clear c4
  have HC5 := Aside0.mk H
  clear H
  go_enter Try.func15, Try.ntmps15
  go_upto_region 4 with (first | ((with_reducible refine gate_dst (N := 3) rfl ?_); (try (refine gate_guard (by rfl) ?_; dsimp only)); refine box_event ?hg (N := 3) ?hd (cs := #[.int .i64 a1_0, .int .i64 a1_1, .int .i64 a1_2, .slice A1_3 l1_3.length c1_3, .slice A1_4 l1_4.length c1_4, .slice A1_5 l1_5.length c1_5, .slice A1_6 l1_6.length c1_6, .int .i64 a1_7, .int .i64 a1_8, .bool a1_9]) (t := 25) ?hr ?_; (case hd => rfl); (case hg => rfl); (case hr => first | (go_simp; done) | (go_simp; rfl)); intro gb127 hg w6 hbox hb; have BK127 := Aside0.mk (hbox); have GW127 := Aside0.mk ((dS_ hg (dL_ HB) : w.heap.size ≤ gb127)); have GE127 := Aside0.mk ((dS_ hg (dL_ HB) : w.heap.size ≤ gb127)); replace HB := Aside0.mk (below_step (dL_ HB) hb); clear hb hbox hg) | ((with_reducible refine gate_callee (f := 33) rfl ?_); refine goesL_ (some 8) rfl rfl Try.func33 (by kernel_rfl) rfl #[.slice A0 l0.length c0] rfl tA_ ?_; (with_reducible refine (plant_ValidateKinds.calls k _ _ l0 t128 _ ?side1 ?side2 A3.out).mono ?_); (case side1 => exact dC_ HR0 HB); (case side2 => exact HC0.out); rintro e w7 ⟨rfl, hb⟩; refine ⟨_, rfl, ?_⟩; replace BK127 := Aside0.mk (blk_below (g := gb127) (o := .cells #[.int .i64 a1_0, .int .i64 a1_1, .int .i64 a1_2, .slice A1_3 l1_3.length c1_3, .slice A1_4 l1_4.length c1_4, .slice A1_5 l1_5.length c1_5, .slice A1_6 l1_6.length c1_6, .int .i64 a1_7, .int .i64 a1_8, .bool a1_9] 25 (0, 0)) (dB_ BK127) hb); replace HB := Aside0.mk (below_step (dL1_ HB GE127) hb)))
  (try simp only [Act.put, List.setIfInBounds_toArray, List.set_cons_zero, List.set_cons_succ])
  go_cut [21] (fun v21 wc => ∃ (kq : Nat) (x21_4 : Bool), v21 = .bool x21_4 ∧ Aside0 (plant_Validate.j0 kq l0 x21_4 a1_0 a1_1 a1_2 l1_3 l1_4 l1_5 l1_6 a1_7 a1_8 a1_9 = some r) ∧ Aside0 (kq ≤ k) ∧ Aside0 (wc.heap[gb127]? = some (.cells #[.int .i64 a1_0, .int .i64 a1_1, .int .i64 a1_2, (.slice A1_3 l1_3.length c1_3), (.slice A1_4 l1_4.length c1_4), (.slice A1_5 l1_5.length c1_5), (.slice A1_6 l1_6.length c1_6), .int .i64 a1_7, .int .i64 a1_8, .bool a1_9] 25 (0, 0))) ∧ Aside0 (Below w.heap.size w wc))
  case first =>
   have H := HC5.out
   clear HC5
   by_cases c8 : a1_0 < 0
   ·rw [if_pos c8] at H
    have c8b0 : decide (a1_0 < 0) = true := decide_eq_true c8
    clear c8
    (first | rw [c8b0] | (simp only [i64_w, i32_w]; rw [c8b0]) | skip)
    have H' := Aside0.mk H
    clear H
    obtain ⟨hcz9_0, hcz9_1, hcz9_2, hcz9_3, hcz9_4, hcz9_5, hcz9_6, hcz9_7, hcz9_8, hcz9_9, hfz9_0, hfz9_1, hfz9_2, hfz9_3, hfz9_4, hfz9_5, hfz9_6, hfz9_7, hfz9_8, hfz9_9⟩ := cs10_ BK127.out
    go_wp2
    go_meet
    case rel => exact ⟨_, (true), tS_, H', ⟨by first | omega | exact Nat.le_refl _⟩, ⟨dB_ BK127⟩, ⟨dL1_ HB GE127⟩⟩
   ·rw [if_neg c8] at H
    have c8b0 : decide (a1_0 < 0) = false := decide_eq_false c8
    clear c8
    (first | rw [c8b0] | (simp only [i64_w, i32_w]; rw [c8b0]) | skip)
    have H' := Aside0.mk H
    clear H
    obtain ⟨hcz10_0, hcz10_1, hcz10_2, hcz10_3, hcz10_4, hcz10_5, hcz10_6, hcz10_7, hcz10_8, hcz10_9, hfz10_0, hfz10_1, hfz10_2, hfz10_3, hfz10_4, hfz10_5, hfz10_6, hfz10_7, hfz10_8, hfz10_9⟩ := cs10_ BK127.out
    go_wp2
    go_meet
    case rel => exact ⟨_, (decide (a1_0 ≥ (l0.length : Int))), tS_, H', ⟨by first | omega | exact Nat.le_refl _⟩, ⟨dB_ BK127⟩, ⟨dL1_ HB GE127⟩⟩
  case rest =>
   clear HC5
   try clear c4
   try clear c4b0
   try clear c4b1
   try clear c8
   obtain ⟨kq, x21_4, rfl, HA, HJ4, BK127, HB⟩ := hcut
   cases kq with
   | zero => exact absurd HA.out (by simp [plant_Validate.j0])
   | succ kj4 =>
    have H := HA.out
    clear HA
    simp only [plant_Validate.j0] at H
    by_cases c11 : x21_4 = true
    ·subst c11
     have H1 : (some 2) = some r := by rw [if_pos rfl] at H; exact H
     clear H
     have H := H1
     clear H1
     obtain rfl := Option.some.inj H
     go_wp2
     go_ret
     exact ⟨tE_, dL1_ HB GE127⟩
    ·replace c11 := Bool.eq_false_iff.mpr c11
     subst c11
     have H1 : (if 0 ≤ a1_0 then (if a1_0 < (l0.length : Int) then (if a1_1 < 0 then (plant_Validate.j1 kj4 true a1_0 a1_1 a1_2 l1_3 l1_4 l1_5 l1_6 a1_7 a1_8 a1_9) else (if a1_1 > 1000000 then (plant_Validate.j1 kj4 true a1_0 a1_1 a1_2 l1_3 l1_4 l1_5 l1_6 a1_7 a1_8 a1_9) else (if a1_2 < 1 then (plant_Validate.j1 kj4 true a1_0 a1_1 a1_2 l1_3 l1_4 l1_5 l1_6 a1_7 a1_8 a1_9) else (if a1_2 > 64 then (plant_Validate.j1 kj4 true a1_0 a1_1 a1_2 l1_3 l1_4 l1_5 l1_6 a1_7 a1_8 a1_9) else (if (l1_3.length : Int) = (((rd_T39 l0 a1_0).f2).length : Int) then (if (l1_4.length : Int) = (((rd_T39 l0 a1_0).f2).length : Int) then (if (l1_5.length : Int) = (((rd_T39 l0 a1_0).f2).length : Int) then (plant_Validate.j1 kj4 ((l1_6.length : Int) != (((rd_T39 l0 a1_0).f2).length : Int)) a1_0 a1_1 a1_2 l1_3 l1_4 l1_5 l1_6 a1_7 a1_8 a1_9) else (plant_Validate.j1 kj4 true a1_0 a1_1 a1_2 l1_3 l1_4 l1_5 l1_6 a1_7 a1_8 a1_9)) else (plant_Validate.j1 kj4 true a1_0 a1_1 a1_2 l1_3 l1_4 l1_5 l1_6 a1_7 a1_8 a1_9)) else (plant_Validate.j1 kj4 true a1_0 a1_1 a1_2 l1_3 l1_4 l1_5 l1_6 a1_7 a1_8 a1_9)))))) else (none)) else (none)) = some r := by rw [if_neg (show ¬ (false = true) by decide)] at H; exact H
     clear H
     have H := H1
     clear H1
     by_cases c12 : 0 ≤ a1_0
     ·rw [if_pos c12] at H
      have c12b0 : decide (0 ≤ a1_0) = true := decide_eq_true c12
      clear c12
      by_cases c13 : a1_0 < (l0.length : Int)
      ·rw [if_pos c13] at H
       have c13b0 : decide (a1_0 < (l0.length : Int)) = true := decide_eq_true c13
       clear c13
       have HC14 := Aside0.mk H
       clear H
       obtain ⟨hcz15_0, hcz15_1, hcz15_2, hcz15_3, hcz15_4, hcz15_5, hcz15_6, hcz15_7, hcz15_8, hcz15_9, hfz15_0, hfz15_1, hfz15_2, hfz15_3, hfz15_4, hfz15_5, hfz15_6, hfz15_7, hfz15_8, hfz15_9⟩ := cs10_ BK127.out
       have p129 : 0 ≤ (a1_0 : Int) := of_decide_eq_true tW_
       have q129 : a1_0 < (l0.length : Int) := of_decide_eq_true tW_
       obtain ⟨ad129, A129_1, c129_1, A129_2, c129_2, e129, hx129_0, hx129_1, hx129_2, hl129_1, hi129_1, hl129_2, hi129_2⟩ := at_T39 HR0.out a1_0 p129 q129
       cases e129
       replace hx129_0 := bc_ HB hx129_0
       replace hx129_1 := bc_ HB hx129_1
       replace hx129_2 := bc_ HB hx129_2
       have HR129_1 := Aside0.mk hi129_1
       have HC129_1 := Aside0.mk hl129_1
       clear hi129_1 hl129_1
       have HR129_2 := Aside0.mk hi129_2
       have HC129_2 := Aside0.mk hl129_2
       clear hi129_2 hl129_2
       replace p129 := eq_true p129
       replace q129 := eq_true q129
       go_upto_region 7 with (fail)
       go_cut [74] (fun v74 wc => ∃ (kq : Nat) (x74_13 : Bool), v74 = .bool x74_13 ∧ Aside0 (plant_Validate.j1 kq x74_13 a1_0 a1_1 a1_2 l1_3 l1_4 l1_5 l1_6 a1_7 a1_8 a1_9 = some r) ∧ Aside0 (kq ≤ kj4) ∧ Aside0 (wc.heap[gb127]? = some (.cells #[.int .i64 a1_0, .int .i64 a1_1, .int .i64 a1_2, (.slice A1_3 l1_3.length c1_3), (.slice A1_4 l1_4.length c1_4), (.slice A1_5 l1_5.length c1_5), (.slice A1_6 l1_6.length c1_6), .int .i64 a1_7, .int .i64 a1_8, .bool a1_9] 25 (0, 0))) ∧ Aside0 (Below w.heap.size w wc))
       case first =>
        have H := HC14.out
        clear HC14
        by_cases c16 : a1_1 < 0
        ·rw [if_pos c16] at H
         have c16b0 : decide (a1_1 < 0) = true := decide_eq_true c16
         clear c16
         (first | rw [c16b0] | (simp only [i64_w, i32_w]; rw [c16b0]) | skip)
         have H' := Aside0.mk H
         clear H
         obtain ⟨hcz17_0, hcz17_1, hcz17_2, hcz17_3, hcz17_4, hcz17_5, hcz17_6, hcz17_7, hcz17_8, hcz17_9, hfz17_0, hfz17_1, hfz17_2, hfz17_3, hfz17_4, hfz17_5, hfz17_6, hfz17_7, hfz17_8, hfz17_9⟩ := cs10_ BK127.out
         go_wp2
         go_meet
         case rel => exact ⟨_, (true), tS_, H', ⟨by have := HJ4.out; first | omega | exact Nat.le_refl _⟩, ⟨dB_ BK127⟩, ⟨dL1_ HB GE127⟩⟩
        ·rw [if_neg c16] at H
         have c16b0 : decide (a1_1 < 0) = false := decide_eq_false c16
         clear c16
         (first | rw [c16b0] | (simp only [i64_w, i32_w]; rw [c16b0]) | skip)
         by_cases c18 : a1_1 > 1000000
         ·rw [if_pos c18] at H
          have c18b0 : decide (1000000 < a1_1) = true := decide_eq_true c18
          clear c18
          have H' := Aside0.mk H
          clear H
          obtain ⟨hcz19_0, hcz19_1, hcz19_2, hcz19_3, hcz19_4, hcz19_5, hcz19_6, hcz19_7, hcz19_8, hcz19_9, hfz19_0, hfz19_1, hfz19_2, hfz19_3, hfz19_4, hfz19_5, hfz19_6, hfz19_7, hfz19_8, hfz19_9⟩ := cs10_ BK127.out
          go_wp2
          go_meet
          case rel => exact ⟨_, (true), tS_, H', ⟨by have := HJ4.out; first | omega | exact Nat.le_refl _⟩, ⟨dB_ BK127⟩, ⟨dL1_ HB GE127⟩⟩
         ·rw [if_neg c18] at H
          have c18b0 : decide (1000000 < a1_1) = false := decide_eq_false c18
          clear c18
          by_cases c20 : a1_2 < 1
          ·rw [if_pos c20] at H
           have c20b0 : decide (a1_2 < 1) = true := decide_eq_true c20
           clear c20
           have H' := Aside0.mk H
           clear H
           obtain ⟨hcz21_0, hcz21_1, hcz21_2, hcz21_3, hcz21_4, hcz21_5, hcz21_6, hcz21_7, hcz21_8, hcz21_9, hfz21_0, hfz21_1, hfz21_2, hfz21_3, hfz21_4, hfz21_5, hfz21_6, hfz21_7, hfz21_8, hfz21_9⟩ := cs10_ BK127.out
           go_wp2
           go_meet
           case rel => exact ⟨_, (true), tS_, H', ⟨by have := HJ4.out; first | omega | exact Nat.le_refl _⟩, ⟨dB_ BK127⟩, ⟨dL1_ HB GE127⟩⟩
          ·rw [if_neg c20] at H
           have c20b0 : decide (a1_2 < 1) = false := decide_eq_false c20
           clear c20
           by_cases c22 : a1_2 > 64
           ·rw [if_pos c22] at H
            have c22b0 : decide (64 < a1_2) = true := decide_eq_true c22
            clear c22
            have H' := Aside0.mk H
            clear H
            obtain ⟨hcz23_0, hcz23_1, hcz23_2, hcz23_3, hcz23_4, hcz23_5, hcz23_6, hcz23_7, hcz23_8, hcz23_9, hfz23_0, hfz23_1, hfz23_2, hfz23_3, hfz23_4, hfz23_5, hfz23_6, hfz23_7, hfz23_8, hfz23_9⟩ := cs10_ BK127.out
            go_wp2
            go_meet
            case rel => exact ⟨_, (true), tS_, H', ⟨by have := HJ4.out; first | omega | exact Nat.le_refl _⟩, ⟨dB_ BK127⟩, ⟨dL1_ HB GE127⟩⟩
           ·rw [if_neg c22] at H
            have c22b0 : decide (64 < a1_2) = false := decide_eq_false c22
            clear c22
            by_cases c24 : (l1_3.length : Int) = (((rd_T39 l0 a1_0).f2).length : Int)
            ·rw [if_pos c24] at H
             have c24b0 : ((l1_3.length : Int) == (((rd_T39 l0 a1_0).f2).length : Int)) = true := beq_iff_eq.mpr c24
             have c24b1 : ((l1_3.length : Int) != (((rd_T39 l0 a1_0).f2).length : Int)) = false := bne_eq_false_iff_eq.mpr c24
             have c24b2 : (l1_3.length == ((rd_T39 l0 a1_0).f2).length) = true := by first | simpa using c24 | (simp at c24 ⊢; omega)
             clear c24
             by_cases c25 : (l1_4.length : Int) = (((rd_T39 l0 a1_0).f2).length : Int)
             ·rw [if_pos c25] at H
              have c25b0 : ((l1_4.length : Int) == (((rd_T39 l0 a1_0).f2).length : Int)) = true := beq_iff_eq.mpr c25
              have c25b1 : ((l1_4.length : Int) != (((rd_T39 l0 a1_0).f2).length : Int)) = false := bne_eq_false_iff_eq.mpr c25
              have c25b2 : (l1_4.length == ((rd_T39 l0 a1_0).f2).length) = true := by first | simpa using c25 | (simp at c25 ⊢; omega)
              clear c25
              by_cases c26 : (l1_5.length : Int) = (((rd_T39 l0 a1_0).f2).length : Int)
              ·rw [if_pos c26] at H
               have c26b0 : ((l1_5.length : Int) == (((rd_T39 l0 a1_0).f2).length : Int)) = true := beq_iff_eq.mpr c26
               have c26b1 : ((l1_5.length : Int) != (((rd_T39 l0 a1_0).f2).length : Int)) = false := bne_eq_false_iff_eq.mpr c26
               have c26b2 : (l1_5.length == ((rd_T39 l0 a1_0).f2).length) = true := by first | simpa using c26 | (simp at c26 ⊢; omega)
               clear c26
               have H' := Aside0.mk H
               clear H
               obtain ⟨hcz27_0, hcz27_1, hcz27_2, hcz27_3, hcz27_4, hcz27_5, hcz27_6, hcz27_7, hcz27_8, hcz27_9, hfz27_0, hfz27_1, hfz27_2, hfz27_3, hfz27_4, hfz27_5, hfz27_6, hfz27_7, hfz27_8, hfz27_9⟩ := cs10_ BK127.out
               go_wp2
               go_meet
               case rel => exact ⟨_, (((l1_6.length : Int) != (((rd_T39 l0 a1_0).f2).length : Int))), tS_, H', ⟨by have := HJ4.out; first | omega | exact Nat.le_refl _⟩, ⟨dB_ BK127⟩, ⟨dL1_ HB GE127⟩⟩
              ·rw [if_neg c26] at H
               have c26b0 : ((l1_5.length : Int) == (((rd_T39 l0 a1_0).f2).length : Int)) = false := beq_eq_false_iff_ne.mpr c26
               have c26b1 : ((l1_5.length : Int) != (((rd_T39 l0 a1_0).f2).length : Int)) = true := bne_iff_ne.mpr c26
               have c26b2 : (l1_5.length == ((rd_T39 l0 a1_0).f2).length) = false := by first | simpa using c26 | (simp at c26 ⊢; omega)
               have H' := Aside0.mk H
               clear H
               obtain ⟨hcz28_0, hcz28_1, hcz28_2, hcz28_3, hcz28_4, hcz28_5, hcz28_6, hcz28_7, hcz28_8, hcz28_9, hfz28_0, hfz28_1, hfz28_2, hfz28_3, hfz28_4, hfz28_5, hfz28_6, hfz28_7, hfz28_8, hfz28_9⟩ := cs10_ BK127.out
               go_wp2
               go_meet
               case rel => exact ⟨_, (true), tS_, H', ⟨by have := HJ4.out; first | omega | exact Nat.le_refl _⟩, ⟨dB_ BK127⟩, ⟨dL1_ HB GE127⟩⟩
             ·rw [if_neg c25] at H
              have c25b0 : ((l1_4.length : Int) == (((rd_T39 l0 a1_0).f2).length : Int)) = false := beq_eq_false_iff_ne.mpr c25
              have c25b1 : ((l1_4.length : Int) != (((rd_T39 l0 a1_0).f2).length : Int)) = true := bne_iff_ne.mpr c25
              have c25b2 : (l1_4.length == ((rd_T39 l0 a1_0).f2).length) = false := by first | simpa using c25 | (simp at c25 ⊢; omega)
              have H' := Aside0.mk H
              clear H
              obtain ⟨hcz29_0, hcz29_1, hcz29_2, hcz29_3, hcz29_4, hcz29_5, hcz29_6, hcz29_7, hcz29_8, hcz29_9, hfz29_0, hfz29_1, hfz29_2, hfz29_3, hfz29_4, hfz29_5, hfz29_6, hfz29_7, hfz29_8, hfz29_9⟩ := cs10_ BK127.out
              go_wp2
              go_meet
              case rel => exact ⟨_, (true), tS_, H', ⟨by have := HJ4.out; first | omega | exact Nat.le_refl _⟩, ⟨dB_ BK127⟩, ⟨dL1_ HB GE127⟩⟩
            ·rw [if_neg c24] at H
             have c24b0 : ((l1_3.length : Int) == (((rd_T39 l0 a1_0).f2).length : Int)) = false := beq_eq_false_iff_ne.mpr c24
             have c24b1 : ((l1_3.length : Int) != (((rd_T39 l0 a1_0).f2).length : Int)) = true := bne_iff_ne.mpr c24
             have c24b2 : (l1_3.length == ((rd_T39 l0 a1_0).f2).length) = false := by first | simpa using c24 | (simp at c24 ⊢; omega)
             have H' := Aside0.mk H
             clear H
             obtain ⟨hcz30_0, hcz30_1, hcz30_2, hcz30_3, hcz30_4, hcz30_5, hcz30_6, hcz30_7, hcz30_8, hcz30_9, hfz30_0, hfz30_1, hfz30_2, hfz30_3, hfz30_4, hfz30_5, hfz30_6, hfz30_7, hfz30_8, hfz30_9⟩ := cs10_ BK127.out
             go_wp2
             go_meet
             case rel => exact ⟨_, (true), tS_, H', ⟨by have := HJ4.out; first | omega | exact Nat.le_refl _⟩, ⟨dB_ BK127⟩, ⟨dL1_ HB GE127⟩⟩
       case rest =>
        clear HC14
        try clear c4
        try clear c4b0
        try clear c4b1
        try clear c8
        try clear c11
        try clear c12
        try clear c12b0
        try clear c13
        try clear c13b0
        try clear c16
        try clear c18
        try clear c20
        try clear c22
        try clear c24
        try clear c25
        try clear c26
        try clear hcz15_0
        try clear hcz15_1
        try clear hcz15_2
        try clear hcz15_3
        try clear hcz15_4
        try clear hcz15_5
        try clear hcz15_6
        try clear hcz15_7
        try clear hcz15_8
        try clear hcz15_9
        try clear hfz15_0
        try clear hfz15_1
        try clear hfz15_2
        try clear hfz15_3
        try clear hfz15_4
        try clear hfz15_5
        try clear hfz15_6
        try clear hfz15_7
        try clear hfz15_8
        try clear hfz15_9
        try clear hx129_0
        try clear hx129_1
        try clear hx129_2
        try clear p129
        try clear q129
        obtain ⟨kq, x74_13, rfl, HA, HJ13, BK127, HB⟩ := hcut
        cases kq with
        | zero => exact absurd HA.out (by simp [plant_Validate.j1])
        | succ kj13 =>
         have H := HA.out
         clear HA
         simp only [plant_Validate.j1] at H
         by_cases c31 : x74_13 = true
         ·subst c31
          have H1 : (some 1) = some r := by rw [if_pos rfl] at H; exact H
          clear H
          have H := H1
          clear H1
          obtain rfl := Option.some.inj H
          go_wp2
          go_ret
          exact ⟨tE_, dL1_ HB GE127⟩
         ·replace c31 := Bool.eq_false_iff.mpr c31
          subst c31
          have H1 : ((plant_within.f kj13 1000000 l1_3).bind fun t130 => (if t130 = true then ((plant_within.f kj13 7 l1_4).bind fun t131 => (if t131 = true then ((plant_within.f kj13 1000000 l1_5).bind fun t132 => (if t132 = true then ((plant_within.f kj13 1000000 l1_6).bind fun t133 => (if t133 = true then ((plant_within.f kj13 1000000 (([a1_7, a1_8] : List Int))).bind fun t137 => (plant_Validate.j2 kj13 (!t137))) else (plant_Validate.j2 kj13 true))) else (plant_Validate.j2 kj13 true))) else (plant_Validate.j2 kj13 true))) else (plant_Validate.j2 kj13 true))) = some r := by rw [if_neg (show ¬ (false = true) by decide)] at H; exact H
          clear H
          have H := H1
          clear H1
          have HC32 := Aside0.mk H
          clear H
          go_upto_region 9 with (fail)
          go_cut [105] (fun v105 wc => ∃ (kq : Nat) (x105_31 : Bool), v105 = .bool x105_31 ∧ Aside0 (plant_Validate.j2 kq x105_31 = some r) ∧ Aside0 (kq ≤ kj13) ∧ Aside0 (wc.heap[gb127]? = some (.cells #[.int .i64 a1_0, .int .i64 a1_1, .int .i64 a1_2, (.slice A1_3 l1_3.length c1_3), (.slice A1_4 l1_4.length c1_4), (.slice A1_5 l1_5.length c1_5), (.slice A1_6 l1_6.length c1_6), .int .i64 a1_7, .int .i64 a1_8, .bool a1_9] 25 (0, 0))) ∧ Aside0 (Below w.heap.size w wc))
          case first =>
           have H := HC32.out
           clear HC32
           replace H := Option.bind_eq_some_iff.mp H
           obtain ⟨t130, A330, H⟩ := H
           replace H : (if t130 = true then ((plant_within.f kj13 7 l1_4).bind fun t131 => (if t131 = true then ((plant_within.f kj13 1000000 l1_5).bind fun t132 => (if t132 = true then ((plant_within.f kj13 1000000 l1_6).bind fun t133 => (if t133 = true then ((plant_within.f kj13 1000000 (([a1_7, a1_8] : List Int))).bind fun t137 => (plant_Validate.j2 kj13 (!t137))) else (plant_Validate.j2 kj13 true))) else (plant_Validate.j2 kj13 true))) else (plant_Validate.j2 kj13 true))) else (plant_Validate.j2 kj13 true)) = some r := H
           have A33 := Aside0.mk A330
           clear A330
           by_cases c34 : t130 = true
           ·subst c34
            have H1 : ((plant_within.f kj13 7 l1_4).bind fun t131 => (if t131 = true then ((plant_within.f kj13 1000000 l1_5).bind fun t132 => (if t132 = true then ((plant_within.f kj13 1000000 l1_6).bind fun t133 => (if t133 = true then ((plant_within.f kj13 1000000 (([a1_7, a1_8] : List Int))).bind fun t137 => (plant_Validate.j2 kj13 (!t137))) else (plant_Validate.j2 kj13 true))) else (plant_Validate.j2 kj13 true))) else (plant_Validate.j2 kj13 true))) = some r := by rw [if_pos rfl] at H; exact H
            clear H
            have H := H1
            clear H1
            replace H := Option.bind_eq_some_iff.mp H
            obtain ⟨t131, A350, H⟩ := H
            replace H : (if t131 = true then ((plant_within.f kj13 1000000 l1_5).bind fun t132 => (if t132 = true then ((plant_within.f kj13 1000000 l1_6).bind fun t133 => (if t133 = true then ((plant_within.f kj13 1000000 (([a1_7, a1_8] : List Int))).bind fun t137 => (plant_Validate.j2 kj13 (!t137))) else (plant_Validate.j2 kj13 true))) else (plant_Validate.j2 kj13 true))) else (plant_Validate.j2 kj13 true)) = some r := H
            have A35 := Aside0.mk A350
            clear A350
            by_cases c36 : t131 = true
            ·subst c36
             have H1 : ((plant_within.f kj13 1000000 l1_5).bind fun t132 => (if t132 = true then ((plant_within.f kj13 1000000 l1_6).bind fun t133 => (if t133 = true then ((plant_within.f kj13 1000000 (([a1_7, a1_8] : List Int))).bind fun t137 => (plant_Validate.j2 kj13 (!t137))) else (plant_Validate.j2 kj13 true))) else (plant_Validate.j2 kj13 true))) = some r := by rw [if_pos rfl] at H; exact H
             clear H
             have H := H1
             clear H1
             replace H := Option.bind_eq_some_iff.mp H
             obtain ⟨t132, A370, H⟩ := H
             replace H : (if t132 = true then ((plant_within.f kj13 1000000 l1_6).bind fun t133 => (if t133 = true then ((plant_within.f kj13 1000000 (([a1_7, a1_8] : List Int))).bind fun t137 => (plant_Validate.j2 kj13 (!t137))) else (plant_Validate.j2 kj13 true))) else (plant_Validate.j2 kj13 true)) = some r := H
             have A37 := Aside0.mk A370
             clear A370
             by_cases c38 : t132 = true
             ·subst c38
              have H1 : ((plant_within.f kj13 1000000 l1_6).bind fun t133 => (if t133 = true then ((plant_within.f kj13 1000000 (([a1_7, a1_8] : List Int))).bind fun t137 => (plant_Validate.j2 kj13 (!t137))) else (plant_Validate.j2 kj13 true))) = some r := by rw [if_pos rfl] at H; exact H
              clear H
              have H := H1
              clear H1
              replace H := Option.bind_eq_some_iff.mp H
              obtain ⟨t133, A390, H⟩ := H
              replace H : (if t133 = true then ((plant_within.f kj13 1000000 (([a1_7, a1_8] : List Int))).bind fun t137 => (plant_Validate.j2 kj13 (!t137))) else (plant_Validate.j2 kj13 true)) = some r := H
              have A39 := Aside0.mk A390
              clear A390
              by_cases c40 : t133 = true
              ·subst c40
               have H1 : ((plant_within.f kj13 1000000 (([a1_7, a1_8] : List Int))).bind fun t137 => (plant_Validate.j2 kj13 (!t137))) = some r := by rw [if_pos rfl] at H; exact H
               clear H
               have H := H1
               clear H1
               obtain ⟨y134, hy134⟩ : ∃ y_ : List Int, y_ = (([a1_7, a1_8] : List Int)) := ⟨_, rfl⟩
               replace H : ((plant_within.f kj13 1000000 y134).bind fun t137 => (plant_Validate.j2 kj13 (!t137))) = some r := by first | (rw [hy134]; with_reducible exact H) | (have H2_ := (Option.bind_some _ _).symm.trans H; rw [hy134]; with_reducible exact H2_) | (have H2_ := (Option.bind_some _ _).symm.trans H; with_reducible exact H2_) | with_reducible exact H | (rw [hy134]; exact H) | exact H
               have Ny134 := Aside0.mk hy134
               clear hy134
               replace H := Option.bind_eq_some_iff.mp H
               obtain ⟨t137, A410, H⟩ := H
               replace H : (plant_Validate.j2 kj13 (!t137)) = some r := H
               have A41 := Aside0.mk A410
               clear A410
               have H' := Aside0.mk H
               clear H
               obtain ⟨hcz42_0, hcz42_1, hcz42_2, hcz42_3, hcz42_4, hcz42_5, hcz42_6, hcz42_7, hcz42_8, hcz42_9, hfz42_0, hfz42_1, hfz42_2, hfz42_3, hfz42_4, hfz42_5, hfz42_6, hfz42_7, hfz42_8, hfz42_9⟩ := cs10_ BK127.out
               go_wp2_with (first | ((with_reducible refine gate_callee (f := 34) rfl ?_); refine goesL_ (some 77) rfl rfl Try.func34 (by kernel_rfl) rfl #[.int .i64 1000000, .slice A1_3 l1_3.length c1_3] rfl tA_ ?_; (with_reducible refine (plant_within.calls kj13 1000000 _ _ l1_3 true _ ?side1 ?side2 A33.out).mono ?_); (case side1 => exact dC_ HR1_3 HB); (case side2 => exact HC1_3.out); rintro e w' ⟨rfl, ⟨nd, rfl⟩⟩; refine ⟨_, rfl, ?_⟩) | (go_at_call 34; (with_reducible refine (plant_within.calls kj13 7 _ _ l1_4 true _ ?side1 ?side2 A35.out).mono ?_); (case side1 => repeat (first | exact (Kd.C_below HR1_4.out (dL1_ HB GE127)) | (with_reducible refine Kd.C_alloc ?_ _) | (with_reducible refine Kd.C_drewN ?_ _) | (with_reducible refine Kd.C_drew ?_))); (case side2 => exact HC1_4.out); rintro e w' ⟨rfl, ⟨nd, rfl⟩⟩) | (go_at_call 34; (with_reducible refine (plant_within.calls kj13 1000000 _ _ l1_5 true _ ?side1 ?side2 A37.out).mono ?_); (case side1 => repeat (first | exact (Kd.C_below HR1_5.out (dL1_ HB GE127)) | (with_reducible refine Kd.C_alloc ?_ _) | (with_reducible refine Kd.C_drewN ?_ _) | (with_reducible refine Kd.C_drew ?_))); (case side2 => exact HC1_5.out); rintro e w' ⟨rfl, ⟨nd, rfl⟩⟩) | (go_at_call 34; (with_reducible refine (plant_within.calls kj13 1000000 _ _ l1_6 true _ ?side1 ?side2 A39.out).mono ?_); (case side1 => repeat (first | exact (Kd.C_below HR1_6.out (dL1_ HB GE127)) | (with_reducible refine Kd.C_alloc ?_ _) | (with_reducible refine Kd.C_drewN ?_ _) | (with_reducible refine Kd.C_drew ?_))); (case side2 => exact HC1_6.out); rintro e w' ⟨rfl, ⟨nd, rfl⟩⟩) | ((with_reducible refine gate_dst (N := 102) rfl ?_); (try (refine gate_guard (by rfl) ?_; dsimp only)); refine Kd.R_lit (Kd.int .i64) _ 3 ?hg (N := 102) ?hd (xs := ([a1_7, a1_8] : List Int)) (inner := [.int .i64 a1_7, .int .i64 a1_8]) (ok := fun _ => True) (okp := fun _ => True) ?hr ?hp (fun _ hk => hk) trivial (Below.refl _ _) (Nat.le_refl _) (by simp) ?_; (case hd => rfl); (case hg => rfl); (case hr => first | (go_simp; done) | (go_simp; rfl)); (case hp => exact (Reps.one (show Kd.M (Kd.int .i64) _ _ _ a1_7 [.int .i64 a1_7] from rfl) (Reps.one (show Kd.M (Kd.int .i64) _ _ _ a1_8 [.int .i64 a1_8] from rfl) (Reps.none _ _)))); intro v135 w43 ho44 hb hg_ hnew_; clear hg_ hnew_; (first | rw [← Ny134.out] at ho44 | (simp only [Int.reduceToNat] at ho44; rw [← Ny134.out] at ho44)); have HO136 := Aside0.mk (Kd.R_lower ho44 (below_size (dL1_ HB GE127))); replace BK127 := Aside0.mk (blk_below (g := gb127) (o := .cells #[.int .i64 a1_0, .int .i64 a1_1, .int .i64 a1_2, .slice A1_3 l1_3.length c1_3, .slice A1_4 l1_4.length c1_4, .slice A1_5 l1_5.length c1_5, .slice A1_6 l1_6.length c1_6, .int .i64 a1_7, .int .i64 a1_8, .bool a1_9] 25 (0, 0)) (dB_ BK127) hb); replace HB := Aside0.mk (below_step (dL1_ HB GE127) hb); clear hb ho44; obtain ⟨Ao45, co45, eo45⟩ := Kd.R_slice HO136.out; subst eo45) | (go_at_call 34; (with_reducible refine (plant_within.calls kj13 1000000 _ _ y134 t137 _ ?side1 ?side2 A41.out).mono ?_); (case side1 => repeat (first | exact (Kd.R_reads' HO136.out).2.2 | (with_reducible refine Kd.C_alloc ?_ _) | (with_reducible refine Kd.C_drewN ?_ _) | (with_reducible refine Kd.C_drew ?_))); (case side2 => exact (Kd.R_reads' HO136.out).2.1); rintro e w' ⟨rfl, ⟨nd, rfl⟩⟩))
               go_meet
               case rel => exact ⟨_, (!t137), tS_, H', ⟨by have := HJ4.out; have := HJ13.out; first | omega | exact Nat.le_refl _⟩, ⟨dB_ BK127⟩, ⟨dL1_ HB GE127⟩⟩
              ·replace c40 := Bool.eq_false_iff.mpr c40
               subst c40
               have H1 : (plant_Validate.j2 kj13 true) = some r := by rw [if_neg (show ¬ (false = true) by decide)] at H; exact H
               clear H
               have H := H1
               clear H1
               have H' := Aside0.mk H
               clear H
               obtain ⟨hcz46_0, hcz46_1, hcz46_2, hcz46_3, hcz46_4, hcz46_5, hcz46_6, hcz46_7, hcz46_8, hcz46_9, hfz46_0, hfz46_1, hfz46_2, hfz46_3, hfz46_4, hfz46_5, hfz46_6, hfz46_7, hfz46_8, hfz46_9⟩ := cs10_ BK127.out
               go_wp2_with (first | ((with_reducible refine gate_callee (f := 34) rfl ?_); refine goesL_ (some 77) rfl rfl Try.func34 (by kernel_rfl) rfl #[.int .i64 1000000, .slice A1_3 l1_3.length c1_3] rfl tA_ ?_; (with_reducible refine (plant_within.calls kj13 1000000 _ _ l1_3 true _ ?side1 ?side2 A33.out).mono ?_); (case side1 => exact dC_ HR1_3 HB); (case side2 => exact HC1_3.out); rintro e w' ⟨rfl, ⟨nd, rfl⟩⟩; refine ⟨_, rfl, ?_⟩) | (go_at_call 34; (with_reducible refine (plant_within.calls kj13 7 _ _ l1_4 true _ ?side1 ?side2 A35.out).mono ?_); (case side1 => repeat (first | exact (Kd.C_below HR1_4.out (dL1_ HB GE127)) | (with_reducible refine Kd.C_alloc ?_ _) | (with_reducible refine Kd.C_drewN ?_ _) | (with_reducible refine Kd.C_drew ?_))); (case side2 => exact HC1_4.out); rintro e w' ⟨rfl, ⟨nd, rfl⟩⟩) | (go_at_call 34; (with_reducible refine (plant_within.calls kj13 1000000 _ _ l1_5 true _ ?side1 ?side2 A37.out).mono ?_); (case side1 => repeat (first | exact (Kd.C_below HR1_5.out (dL1_ HB GE127)) | (with_reducible refine Kd.C_alloc ?_ _) | (with_reducible refine Kd.C_drewN ?_ _) | (with_reducible refine Kd.C_drew ?_))); (case side2 => exact HC1_5.out); rintro e w' ⟨rfl, ⟨nd, rfl⟩⟩) | (go_at_call 34; (with_reducible refine (plant_within.calls kj13 1000000 _ _ l1_6 false _ ?side1 ?side2 A39.out).mono ?_); (case side1 => repeat (first | exact (Kd.C_below HR1_6.out (dL1_ HB GE127)) | (with_reducible refine Kd.C_alloc ?_ _) | (with_reducible refine Kd.C_drewN ?_ _) | (with_reducible refine Kd.C_drew ?_))); (case side2 => exact HC1_6.out); rintro e w' ⟨rfl, ⟨nd, rfl⟩⟩))
               go_meet
               case rel => exact ⟨_, (true), tS_, H', ⟨by have := HJ4.out; have := HJ13.out; first | omega | exact Nat.le_refl _⟩, ⟨dB_ BK127⟩, ⟨dL1_ HB GE127⟩⟩
             ·replace c38 := Bool.eq_false_iff.mpr c38
              subst c38
              have H1 : (plant_Validate.j2 kj13 true) = some r := by rw [if_neg (show ¬ (false = true) by decide)] at H; exact H
              clear H
              have H := H1
              clear H1
              have H' := Aside0.mk H
              clear H
              obtain ⟨hcz47_0, hcz47_1, hcz47_2, hcz47_3, hcz47_4, hcz47_5, hcz47_6, hcz47_7, hcz47_8, hcz47_9, hfz47_0, hfz47_1, hfz47_2, hfz47_3, hfz47_4, hfz47_5, hfz47_6, hfz47_7, hfz47_8, hfz47_9⟩ := cs10_ BK127.out
              go_wp2_with (first | ((with_reducible refine gate_callee (f := 34) rfl ?_); refine goesL_ (some 77) rfl rfl Try.func34 (by kernel_rfl) rfl #[.int .i64 1000000, .slice A1_3 l1_3.length c1_3] rfl tA_ ?_; (with_reducible refine (plant_within.calls kj13 1000000 _ _ l1_3 true _ ?side1 ?side2 A33.out).mono ?_); (case side1 => exact dC_ HR1_3 HB); (case side2 => exact HC1_3.out); rintro e w' ⟨rfl, ⟨nd, rfl⟩⟩; refine ⟨_, rfl, ?_⟩) | (go_at_call 34; (with_reducible refine (plant_within.calls kj13 7 _ _ l1_4 true _ ?side1 ?side2 A35.out).mono ?_); (case side1 => repeat (first | exact (Kd.C_below HR1_4.out (dL1_ HB GE127)) | (with_reducible refine Kd.C_alloc ?_ _) | (with_reducible refine Kd.C_drewN ?_ _) | (with_reducible refine Kd.C_drew ?_))); (case side2 => exact HC1_4.out); rintro e w' ⟨rfl, ⟨nd, rfl⟩⟩) | (go_at_call 34; (with_reducible refine (plant_within.calls kj13 1000000 _ _ l1_5 false _ ?side1 ?side2 A37.out).mono ?_); (case side1 => repeat (first | exact (Kd.C_below HR1_5.out (dL1_ HB GE127)) | (with_reducible refine Kd.C_alloc ?_ _) | (with_reducible refine Kd.C_drewN ?_ _) | (with_reducible refine Kd.C_drew ?_))); (case side2 => exact HC1_5.out); rintro e w' ⟨rfl, ⟨nd, rfl⟩⟩))
              go_meet
              case rel => exact ⟨_, (true), tS_, H', ⟨by have := HJ4.out; have := HJ13.out; first | omega | exact Nat.le_refl _⟩, ⟨dB_ BK127⟩, ⟨dL1_ HB GE127⟩⟩
            ·replace c36 := Bool.eq_false_iff.mpr c36
             subst c36
             have H1 : (plant_Validate.j2 kj13 true) = some r := by rw [if_neg (show ¬ (false = true) by decide)] at H; exact H
             clear H
             have H := H1
             clear H1
             have H' := Aside0.mk H
             clear H
             obtain ⟨hcz48_0, hcz48_1, hcz48_2, hcz48_3, hcz48_4, hcz48_5, hcz48_6, hcz48_7, hcz48_8, hcz48_9, hfz48_0, hfz48_1, hfz48_2, hfz48_3, hfz48_4, hfz48_5, hfz48_6, hfz48_7, hfz48_8, hfz48_9⟩ := cs10_ BK127.out
             go_wp2_with (first | ((with_reducible refine gate_callee (f := 34) rfl ?_); refine goesL_ (some 77) rfl rfl Try.func34 (by kernel_rfl) rfl #[.int .i64 1000000, .slice A1_3 l1_3.length c1_3] rfl tA_ ?_; (with_reducible refine (plant_within.calls kj13 1000000 _ _ l1_3 true _ ?side1 ?side2 A33.out).mono ?_); (case side1 => exact dC_ HR1_3 HB); (case side2 => exact HC1_3.out); rintro e w' ⟨rfl, ⟨nd, rfl⟩⟩; refine ⟨_, rfl, ?_⟩) | (go_at_call 34; (with_reducible refine (plant_within.calls kj13 7 _ _ l1_4 false _ ?side1 ?side2 A35.out).mono ?_); (case side1 => repeat (first | exact (Kd.C_below HR1_4.out (dL1_ HB GE127)) | (with_reducible refine Kd.C_alloc ?_ _) | (with_reducible refine Kd.C_drewN ?_ _) | (with_reducible refine Kd.C_drew ?_))); (case side2 => exact HC1_4.out); rintro e w' ⟨rfl, ⟨nd, rfl⟩⟩))
             go_meet
             case rel => exact ⟨_, (true), tS_, H', ⟨by have := HJ4.out; have := HJ13.out; first | omega | exact Nat.le_refl _⟩, ⟨dB_ BK127⟩, ⟨dL1_ HB GE127⟩⟩
           ·replace c34 := Bool.eq_false_iff.mpr c34
            subst c34
            have H1 : (plant_Validate.j2 kj13 true) = some r := by rw [if_neg (show ¬ (false = true) by decide)] at H; exact H
            clear H
            have H := H1
            clear H1
            have H' := Aside0.mk H
            clear H
            obtain ⟨hcz49_0, hcz49_1, hcz49_2, hcz49_3, hcz49_4, hcz49_5, hcz49_6, hcz49_7, hcz49_8, hcz49_9, hfz49_0, hfz49_1, hfz49_2, hfz49_3, hfz49_4, hfz49_5, hfz49_6, hfz49_7, hfz49_8, hfz49_9⟩ := cs10_ BK127.out
            go_wp2_with (first | ((with_reducible refine gate_callee (f := 34) rfl ?_); refine goesL_ (some 77) rfl rfl Try.func34 (by kernel_rfl) rfl #[.int .i64 1000000, .slice A1_3 l1_3.length c1_3] rfl tA_ ?_; (with_reducible refine (plant_within.calls kj13 1000000 _ _ l1_3 false _ ?side1 ?side2 A33.out).mono ?_); (case side1 => exact dC_ HR1_3 HB); (case side2 => exact HC1_3.out); rintro e w' ⟨rfl, ⟨nd, rfl⟩⟩; refine ⟨_, rfl, ?_⟩))
            go_meet
            case rel => exact ⟨_, (true), tS_, H', ⟨by have := HJ4.out; have := HJ13.out; first | omega | exact Nat.le_refl _⟩, ⟨dB_ BK127⟩, ⟨dL1_ HB GE127⟩⟩
          case rest =>
           clear HC32
           try clear c4
           try clear c4b0
           try clear c4b1
           try clear c8
           try clear c11
           try clear c12
           try clear c12b0
           try clear c13
           try clear c13b0
           try clear c16
           try clear c18
           try clear c20
           try clear c22
           try clear c24
           try clear c25
           try clear c26
           try clear c31
           try clear hcz15_0
           try clear hcz15_1
           try clear hcz15_2
           try clear hcz15_3
           try clear hcz15_4
           try clear hcz15_5
           try clear hcz15_6
           try clear hcz15_7
           try clear hcz15_8
           try clear hcz15_9
           try clear hfz15_0
           try clear hfz15_1
           try clear hfz15_2
           try clear hfz15_3
           try clear hfz15_4
           try clear hfz15_5
           try clear hfz15_6
           try clear hfz15_7
           try clear hfz15_8
           try clear hfz15_9
           try clear hx129_0
           try clear hx129_1
           try clear hx129_2
           try clear p129
           try clear q129
           obtain ⟨kq, x105_31, rfl, HA, HJ31, BK127, HB⟩ := hcut
           cases kq with
           | zero => exact absurd HA.out (by simp [plant_Validate.j2])
           | succ kj31 =>
            have H := HA.out
            clear HA
            simp only [plant_Validate.j2] at H
            by_cases c50 : x105_31 = true
            ·subst c50
             have H1 : (some 1) = some r := by rw [if_pos rfl] at H; exact H
             clear H
             have H := H1
             clear H1
             obtain rfl := Option.some.inj H
             go_wp2
             go_ret
             exact ⟨tE_, dL1_ HB GE127⟩
            ·replace c50 := Bool.eq_false_iff.mpr c50
             subst c50
             have H1 : (some 0) = some r := by rw [if_neg (show ¬ (false = true) by decide)] at H; exact H
             clear H
             have H := H1
             clear H1
             obtain rfl := Option.some.inj H
             go_wp2
             go_ret
             exact ⟨tE_, dL1_ HB GE127⟩
      ·rw [if_neg c13] at H
       exact absurd H (by simp)
     ·rw [if_neg c12] at H
      exact absurd H (by simp)
 ·rw [if_neg c4] at H
  have c4b0 : (t128 == 0) = false := beq_eq_false_iff_ne.mpr c4
  have c4b1 : (t128 != 0) = true := bne_iff_ne.mpr c4
  obtain rfl := Option.some.inj H
  go_enter Try.func15, Try.ntmps15
  go_wp2_with (first | ((with_reducible refine gate_dst (N := 3) rfl ?_); (try (refine gate_guard (by rfl) ?_; dsimp only)); refine box_event ?hg (N := 3) ?hd (cs := #[.int .i64 a1_0, .int .i64 a1_1, .int .i64 a1_2, .slice A1_3 l1_3.length c1_3, .slice A1_4 l1_4.length c1_4, .slice A1_5 l1_5.length c1_5, .slice A1_6 l1_6.length c1_6, .int .i64 a1_7, .int .i64 a1_8, .bool a1_9]) (t := 25) ?hr ?_; (case hd => rfl); (case hg => rfl); (case hr => first | (go_simp; done) | (go_simp; rfl)); intro gb127 hg w51 hbox hb; have BK127 := Aside0.mk (hbox); have GW127 := Aside0.mk ((dS_ hg (dL_ HB) : w.heap.size ≤ gb127)); have GE127 := Aside0.mk ((dS_ hg (dL_ HB) : w.heap.size ≤ gb127)); replace HB := Aside0.mk (below_step (dL_ HB) hb); clear hb hbox hg) | ((with_reducible refine gate_callee (f := 33) rfl ?_); refine goesL_ (some 8) rfl rfl Try.func33 (by kernel_rfl) rfl #[.slice A0 l0.length c0] rfl tA_ ?_; (with_reducible refine (plant_ValidateKinds.calls k _ _ l0 t128 _ ?side1 ?side2 A3.out).mono ?_); (case side1 => exact dC_ HR0 HB); (case side2 => exact HC0.out); rintro e w52 ⟨rfl, hb⟩; refine ⟨_, rfl, ?_⟩; replace BK127 := Aside0.mk (blk_below (g := gb127) (o := .cells #[.int .i64 a1_0, .int .i64 a1_1, .int .i64 a1_2, .slice A1_3 l1_3.length c1_3, .slice A1_4 l1_4.length c1_4, .slice A1_5 l1_5.length c1_5, .slice A1_6 l1_6.length c1_6, .int .i64 a1_7, .int .i64 a1_8, .bool a1_9] 25 (0, 0)) (dB_ BK127) hb); replace HB := Aside0.mk (below_step (dL1_ HB GE127) hb)))
  go_ret
  exact ⟨tE_, dL1_ HB GE127⟩

end Go.Proofs.Ytnkgelnkoljgdaa.Q
