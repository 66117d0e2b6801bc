-- PRINTED by print.py out of the translation. Not trusted: Lean checks it.
import Derived.Test.YtnkgelnkoljgdaaPrs
import Derived.Test.YtnkgelnkoljgdaaQ0
import Derived.Test.YtnkgelnkoljgdaaQ5
import Derived.Laws.CopyOwn
namespace Go.Proofs.Ytnkgelnkoljgdaa.Q
open Go.RowKit Go.Proofs.YtnkgelnkoljgdaaPrs Go.Proofs.YtnkgelnkoljgdaaOwn Go.Proofs.YtnkgelnkoljgdaaW.PrintWords Go.Proofs.YtnkgelnkoljgdaaW.PrintLast Go.Proofs.YtnkgelnkoljgdaaW.PrintMore
attribute [local go_sem] max2_int min2_int max_two min_two max_three min_three max_four min_four   -- for this text's walks alone
set_option linter.unusedVariables false
set_option linter.unusedSimpArgs false

/-! ### plant_Validate: function 15 -/
mutual
def plant_Validate.j0 : Nat → List (S39) → Bool → Int → Int → Int → List Int → List Int → List Int → List Int → Int → Int → Bool → Option (Int)
  | 0, _, _, _, _, _, _, _, _, _, _, _, _ => none
  | k + 1, x0, x21, x128000, x128001, x128002, x128003, x128004, x128005, x128006, x128007, x128008, x128009 => if x21 = true then (some 2) else (if 0 ≤ x128000 then (if x128000 < (x0.length : Int) then (if x128001 < 0 then (plant_Validate.j1 k true x128000 x128001 x128002 x128003 x128004 x128005 x128006 x128007 x128008 x128009) else (if x128001 > 1000000 then (plant_Validate.j1 k true x128000 x128001 x128002 x128003 x128004 x128005 x128006 x128007 x128008 x128009) else (if x128002 < 1 then (plant_Validate.j1 k true x128000 x128001 x128002 x128003 x128004 x128005 x128006 x128007 x128008 x128009) else (if x128002 > 64 then (plant_Validate.j1 k true x128000 x128001 x128002 x128003 x128004 x128005 x128006 x128007 x128008 x128009) else (if (x128003.length : Int) = (((rd_T39 x0 x128000).f2).length : Int) then (if (x128004.length : Int) = (((rd_T39 x0 x128000).f2).length : Int) then (if (x128005.length : Int) = (((rd_T39 x0 x128000).f2).length : Int) then (plant_Validate.j1 k ((x128006.length : Int) != (((rd_T39 x0 x128000).f2).length : Int)) x128000 x128001 x128002 x128003 x128004 x128005 x128006 x128007 x128008 x128009) else (plant_Validate.j1 k true x128000 x128001 x128002 x128003 x128004 x128005 x128006 x128007 x128008 x128009)) else (plant_Validate.j1 k true x128000 x128001 x128002 x128003 x128004 x128005 x128006 x128007 x128008 x128009)) else (plant_Validate.j1 k true x128000 x128001 x128002 x128003 x128004 x128005 x128006 x128007 x128008 x128009)))))) else (none)) else (none))
def plant_Validate.j1 : Nat → Bool → Int → Int → Int → List Int → List Int → List Int → List Int → Int → Int → Bool → Option (Int)
  | 0, _, _, _, _, _, _, _, _, _, _, _ => none
  | k + 1, x74, x128000, x128001, x128002, x128003, x128004, x128005, x128006, x128007, x128008, x128009 => if x74 = true then (some 1) else ((plant_within.f k 1000000 x128003).bind fun t130 => (if t130 = true then ((plant_within.f k 7 x128004).bind fun t131 => (if t131 = true then ((plant_within.f k 1000000 x128005).bind fun t132 => (if t132 = true then ((plant_within.f k 1000000 x128006).bind fun t133 => (if t133 = true then ((plant_within.f k 1000000 (([x128007, x128008] : List Int))).bind fun t137 => (plant_Validate.j2 k (!t137))) else (plant_Validate.j2 k true))) else (plant_Validate.j2 k true))) else (plant_Validate.j2 k true))) else (plant_Validate.j2 k true)))
def plant_Validate.j2 : Nat → Bool → Option (Int)
  | 0, _ => none
  | k + 1, x105 => if x105 = true then (some 1) else (some 0)
end
def plant_Validate.f (k : Nat) (l0 : List (S39)) (a1_0 : Int) (a1_1 : Int) (a1_2 : Int) (l1_3 : List Int) (l1_4 : List Int) (l1_5 : List Int) (l1_6 : List Int) (a1_7 : Int) (a1_8 : Int) (a1_9 : Bool) : Option (Int) := (plant_ValidateKinds.f k l0).bind fun t128 => (if t128 = 0 then (if a1_0 < 0 then (plant_Validate.j0 k l0 true a1_0 a1_1 a1_2 l1_3 l1_4 l1_5 l1_6 a1_7 a1_8 a1_9) else (plant_Validate.j0 k l0 (decide (a1_0 ≥ (l0.length : Int))) a1_0 a1_1 a1_2 l1_3 l1_4 l1_5 l1_6 a1_7 a1_8 a1_9)) else (some t128))
theorem plant_Validate.mono_l : ∀ k, (∀ y0 y1 y2 y3 y4 y5 y6 y7 y8 y9 y10 y11, LeO (plant_Validate.j0 k y0 y1 y2 y3 y4 y5 y6 y7 y8 y9 y10 y11) (plant_Validate.j0 (k + 1) y0 y1 y2 y3 y4 y5 y6 y7 y8 y9 y10 y11)) ∧ (∀ y0 y1 y2 y3 y4 y5 y6 y7 y8 y9 y10, LeO (plant_Validate.j1 k y0 y1 y2 y3 y4 y5 y6 y7 y8 y9 y10) (plant_Validate.j1 (k + 1) y0 y1 y2 y3 y4 y5 y6 y7 y8 y9 y10)) ∧ (∀ y0, LeO (plant_Validate.j2 k y0) (plant_Validate.j2 (k + 1) y0))
  | 0 => ⟨fun _ _ _ _ _ _ _ _ _ _ _ _ r h => by simp [plant_Validate.j0] at h, fun _ _ _ _ _ _ _ _ _ _ _ r h => by simp [plant_Validate.j1] at h, fun _ r h => by simp [plant_Validate.j2] at h⟩
  | k + 1 => by
    obtain ⟨ih0, ih1, ih2⟩ := plant_Validate.mono_l k; refine ⟨?_, ?_, ?_⟩
    · intro y0 y1 y2 y3 y4 y5 y6 y7 y8 y9 y10 y11
      unfold plant_Validate.j0
      repeat' first
      | (with_reducible first | apply ih0 | apply ih1 | apply ih2 | apply plant_ValidateKinds.mono | apply plant_within.mono | exact LeO.refl _ | exact LeO.none _ | refine LeO.ite ?_ ?_ | refine LeO.bind ?_ (fun _ => ?_))
    · intro y0 y1 y2 y3 y4 y5 y6 y7 y8 y9 y10
      unfold plant_Validate.j1
      repeat' first
      | (with_reducible first | apply ih0 | apply ih1 | apply ih2 | apply plant_ValidateKinds.mono | apply plant_within.mono | exact LeO.refl _ | exact LeO.none _ | refine LeO.ite ?_ ?_ | refine LeO.bind ?_ (fun _ => ?_))
    · intro y0
      unfold plant_Validate.j2
      repeat' first
      | (with_reducible first | apply ih0 | apply ih1 | apply ih2 | apply plant_ValidateKinds.mono | apply plant_within.mono | exact LeO.refl _ | exact LeO.none _ | refine LeO.ite ?_ ?_ | refine LeO.bind ?_ (fun _ => ?_))
theorem plant_Validate.mono : ∀ a0 a1 a2 a3 a4 a5 a6 a7 a8 a9 a10 k, LeO (plant_Validate.f k a0 a1 a2 a3 a4 a5 a6 a7 a8 a9 a10) (plant_Validate.f (k + 1) a0 a1 a2 a3 a4 a5 a6 a7 a8 a9 a10) := by
  intro a0 a1 a2 a3 a4 a5 a6 a7 a8 a9 a10 k; obtain ⟨ih0, ih1, ih2⟩ := plant_Validate.mono_l k
  unfold plant_Validate.f
  repeat' first
      | (with_reducible first | apply ih0 | apply ih1 | apply ih2 | apply plant_ValidateKinds.mono | apply plant_within.mono | exact LeO.refl _ | exact LeO.none _ | refine LeO.ite ?_ ?_ | refine LeO.bind ?_ (fun _ => ?_))
set_option maxHeartbeats 8000000 in
set_option maxRecDepth 100000 in
theorem plant_Validate.calls (k : Nat) (A0 : Option Addr) (c0 : Nat) (l0 : List (S39)) (a1_0 : Int) (a1_1 : Int) (a1_2 : Int) (A1_3 : Option Addr) (c1_3 : Nat) (l1_3 : List Int) (A1_4 : Option Addr) (c1_4 : Nat) (l1_4 : List Int) (A1_5 : Option Addr) (c1_5 : Nat) (l1_5 : List Int) (A1_6 : Option Addr) (c1_6 : Nat) (l1_6 : List Int) (a1_7 : Int) (a1_8 : Int) (a1_9 : Bool) (r : Int) (w : World) (hr0 : Kd.C k39 w A0 l0.length l0) (hc0 : l0.length ≤ c0) (hr1_3 : Kd.C (Kd.int .i64) w A1_3 l1_3.length l1_3) (hc1_3 : l1_3.length ≤ c1_3) (hr1_4 : Kd.C (Kd.int .i64) w A1_4 l1_4.length l1_4) (hc1_4 : l1_4.length ≤ c1_4) (hr1_5 : Kd.C (Kd.int .i64) w A1_5 l1_5.length l1_5) (hc1_5 : l1_5.length ≤ c1_5) (hr1_6 : Kd.C (Kd.int .i64) w A1_6 l1_6.length l1_6) (hc1_6 : l1_6.length ≤ c1_6) (h : plant_Validate.f k l0 a1_0 a1_1 a1_2 l1_3 l1_4 l1_5 l1_6 a1_7 a1_8 a1_9 = some r) :
    Calls Try.prog 15 #[.slice A0 l0.length c0, .agg #[.int .i64 a1_0, .int .i64 a1_1, .int .i64 a1_2, .slice A1_3 l1_3.length c1_3, .slice A1_4 l1_4.length c1_4, .slice A1_5 l1_5.length c1_5, .slice A1_6 l1_6.length c1_6, .int .i64 a1_7, .int .i64 a1_8, .bool a1_9]] w fun e w' => e = .returned (.int .i64 r) ∧ Below w.heap.size w w' := by
 have hu25 := Try.underlying25; have HR0 := Aside0.mk hr0; have HC0 := Aside0.mk hc0; clear hr0 hc0; have HR1_3 := Aside0.mk hr1_3; have HC1_3 := Aside0.mk hc1_3; clear hr1_3 hc1_3; have HR1_4 := Aside0.mk hr1_4; have HC1_4 := Aside0.mk hc1_4; clear hr1_4 hc1_4; have HR1_5 := Aside0.mk hr1_5; have HC1_5 := Aside0.mk hc1_5; clear hr1_5 hc1_5; have HR1_6 := Aside0.mk hr1_6; have HC1_6 := Aside0.mk hc1_6; clear hr1_6 hc1_6; have HB := Aside0.mk (Below.refl w.heap.size w); have H : ((plant_ValidateKinds.f k l0).bind fun t128 => (if t128 = 0 then (if a1_0 < 0 then (plant_Validate.j0 k l0 true a1_0 a1_1 a1_2 l1_3 l1_4 l1_5 l1_6 a1_7 a1_8 a1_9) else (plant_Validate.j0 k l0 (decide (a1_0 ≥ (l0.length : Int))) a1_0 a1_1 a1_2 l1_3 l1_4 l1_5 l1_6 a1_7 a1_8 a1_9)) else (some t128))) = some r := h; clear h; replace H := Option.bind_eq_some_iff.mp H; obtain ⟨t128, A30, H⟩ := H; have A3 := Aside0.mk A30; clear A30
 by_cases c4 : t128 = 0
 ·rw [if_pos c4] at H; have c4b0 : (t128 == 0) = true := beq_iff_eq.mpr c4; have c4b1 : (t128 != 0) = false := bne_eq_false_iff_eq.mpr c4; clear c4; have HC5 := Aside0.mk H; clear H
  go_enter Try.func15, Try.ntmps15
  go_upto_region 4 with (first | ((with_reducible refine gate_dst (N := 3) rfl ?_); (try (refine gate_guard (by rfl) ?_; dsimp only)); refine bx_ (N := 3) (cs := #[.int .i64 a1_0, .int .i64 a1_1, .int .i64 a1_2, .slice A1_3 l1_3.length c1_3, .slice A1_4 l1_4.length c1_4, .slice A1_5 l1_5.length c1_5, .slice A1_6 l1_6.length c1_6, .int .i64 a1_7, .int .i64 a1_8, .bool a1_9]) (t := 25) ?_; intro gb127 hg w6 hbox hb; have BK127 := Aside0.mk (hbox); have GW127 := Aside0.mk ((dS_ hg (dL_ HB) : w.heap.size ≤ gb127)); have GE127 := GW127; replace HB := Aside0.mk (below_step (dL_ HB) hb); clear hb hbox hg) | ((with_reducible refine gate_callee (f := 33) rfl ?_); refine gL_ (some 8) Try.func33 #[.slice A0 l0.length c0] ?_ rfl; (with_reducible refine (plant_ValidateKinds.calls k _ _ l0 t128 _ ?side1 ?side2 A3.out).mono ?_); (case side1 => exact dC_ HR0 HB); (case side2 => exact HC0.out); rintro e w7 ⟨rfl, hb⟩; refine ⟨_, rfl, ?_⟩; replace BK127 := bk_ BK127 hb; replace HB := Aside0.mk (below_step (dL1_ HB GE127) hb)))
  (try simp only [Act.put, List.setIfInBounds_toArray, List.set_cons_zero, List.set_cons_succ])
  go_cut [21] (fun v21 wc => ∃ (kq : Nat) (x21_4 : Bool), v21 = .bool x21_4 ∧ Aside0 (plant_Validate.j0 kq l0 x21_4 a1_0 a1_1 a1_2 l1_3 l1_4 l1_5 l1_6 a1_7 a1_8 a1_9 = some r) ∧ Aside0 (kq ≤ k) ∧ Aside0 (wc.heap[gb127]? = some (.cells #[.int .i64 a1_0, .int .i64 a1_1, .int .i64 a1_2, (.slice A1_3 l1_3.length c1_3), (.slice A1_4 l1_4.length c1_4), (.slice A1_5 l1_5.length c1_5), (.slice A1_6 l1_6.length c1_6), .int .i64 a1_7, .int .i64 a1_8, .bool a1_9] 25 (0, 0))) ∧ Aside0 (Below w.heap.size w wc))
  case first =>
   have H := HC5.out; clear HC5
   by_cases c8 : a1_0 < 0
   ·rw [if_pos c8] at H; have c8b0 : decide (a1_0 < 0) = true := decide_eq_true c8; clear c8
    (first | rw [c8b0] | (simp only [i64_w, i32_w]; rw [c8b0]) | skip)
    have H' := Aside0.mk H; clear H; obtain ⟨z9a, z9b, z9c, z9d, z9e, z9f, z9g, z9h, z9i, z9j, y9a, y9b, y9c, y9d, y9e, y9f, y9g, y9h, y9i, y9j⟩ := cs10_ BK127.out; go_wp2
    go_meet
    case rel => exact ⟨_, (true), tS_, H', ⟨by first | omega | exact Nat.le_refl _⟩, ⟨dB_ BK127⟩, ⟨dL1_ HB GE127⟩⟩
   ·rw [if_neg c8] at H; have c8b0 : decide (a1_0 < 0) = false := decide_eq_false c8; clear c8
    (first | rw [c8b0] | (simp only [i64_w, i32_w]; rw [c8b0]) | skip)
    have H' := Aside0.mk H; clear H; obtain ⟨z10a, z10b, z10c, z10d, z10e, z10f, z10g, z10h, z10i, z10j, y10a, y10b, y10c, y10d, y10e, y10f, y10g, y10h, y10i, y10j⟩ := cs10_ BK127.out; go_wp2
    go_meet
    case rel => exact ⟨_, (decide (a1_0 ≥ (l0.length : Int))), tS_, H', ⟨by first | omega | exact Nat.le_refl _⟩, ⟨dB_ BK127⟩, ⟨dL1_ HB GE127⟩⟩
  case rest =>
   clear HC5; (try clear c4); (try clear c4b0); (try clear c4b1); (try clear c8); obtain ⟨kq, x21_4, rfl, HA, HJ4, BK127, HB⟩ := hcut
   cases kq with
   | zero => exact absurd HA.out (by simp [plant_Validate.j0])
   | succ kj4 =>
    have H := HA.out; clear HA; simp only [plant_Validate.j0] at H
    by_cases c11 : x21_4 = true
    ·subst c11; rw [if_pos rfl] at H; obtain rfl := Option.some.inj H; go_wp2
     go_ret
     exact ⟨tE_, dL1_ HB GE127⟩
    ·replace c11 := Bool.eq_false_iff.mpr c11; subst c11; rw [if_neg (show ¬ (false = true) by decide)] at H
     by_cases c12 : 0 ≤ a1_0
     ·rw [if_pos c12] at H; have c12b0 : decide (0 ≤ a1_0) = true := decide_eq_true c12; clear c12
      by_cases c13 : a1_0 < (l0.length : Int)
      ·rw [if_pos c13] at H; have c13b0 : decide (a1_0 < (l0.length : Int)) = true := decide_eq_true c13; clear c13; have HC14 := Aside0.mk H; clear H; obtain ⟨z15a, z15b, z15c, z15d, z15e, z15f, z15g, z15h, z15i, z15j, y15a, y15b, y15c, y15d, y15e, y15f, y15g, y15h, y15i, y15j⟩ := cs10_ BK127.out; have p129 : 0 ≤ (a1_0 : Int) := of_decide_eq_true tW_; have q129 : a1_0 < (l0.length : Int) := of_decide_eq_true tW_; obtain ⟨ad129, A129_1, c129_1, A129_2, c129_2, e129, hx129_0, hx129_1, hx129_2, hl129_1, hi129_1, hl129_2, hi129_2⟩ := at_T39 HR0.out a1_0 p129 q129; cases e129; replace hx129_0 := bc_ HB hx129_0; replace hx129_1 := bc_ HB hx129_1; replace hx129_2 := bc_ HB hx129_2; have HR129_1 := Aside0.mk hi129_1; have HC129_1 := Aside0.mk hl129_1; clear hi129_1 hl129_1; have HR129_2 := Aside0.mk hi129_2; have HC129_2 := Aside0.mk hl129_2; clear hi129_2 hl129_2; replace p129 := eq_true p129; replace q129 := eq_true q129
       go_upto_region 7 with (fail)
       go_cut [74] (fun v74 wc => ∃ (kq : Nat) (x74_13 : Bool), v74 = .bool x74_13 ∧ Aside0 (plant_Validate.j1 kq x74_13 a1_0 a1_1 a1_2 l1_3 l1_4 l1_5 l1_6 a1_7 a1_8 a1_9 = some r) ∧ Aside0 (kq ≤ kj4) ∧ Aside0 (wc.heap[gb127]? = some (.cells #[.int .i64 a1_0, .int .i64 a1_1, .int .i64 a1_2, (.slice A1_3 l1_3.length c1_3), (.slice A1_4 l1_4.length c1_4), (.slice A1_5 l1_5.length c1_5), (.slice A1_6 l1_6.length c1_6), .int .i64 a1_7, .int .i64 a1_8, .bool a1_9] 25 (0, 0))) ∧ Aside0 (Below w.heap.size w wc))
       case first =>
        have H := HC14.out; clear HC14
        by_cases c16 : a1_1 < 0
        ·rw [if_pos c16] at H; have c16b0 : decide (a1_1 < 0) = true := decide_eq_true c16; clear c16
         (first | rw [c16b0] | (simp only [i64_w, i32_w]; rw [c16b0]) | skip)
         have H' := Aside0.mk H; clear H; obtain ⟨z17a, z17b, z17c, z17d, z17e, z17f, z17g, z17h, z17i, z17j, y17a, y17b, y17c, y17d, y17e, y17f, y17g, y17h, y17i, y17j⟩ := cs10_ BK127.out; go_wp2
         go_meet
         case rel => exact ⟨_, (true), tS_, H', ⟨by have := HJ4.out; first | omega | exact Nat.le_refl _⟩, ⟨dB_ BK127⟩, ⟨dL1_ HB GE127⟩⟩
        ·rw [if_neg c16] at H; have c16b0 : decide (a1_1 < 0) = false := decide_eq_false c16; clear c16
         (first | rw [c16b0] | (simp only [i64_w, i32_w]; rw [c16b0]) | skip)
         by_cases c18 : a1_1 > 1000000
         ·rw [if_pos c18] at H; have c18b0 : decide (1000000 < a1_1) = true := decide_eq_true c18; clear c18; have H' := Aside0.mk H; clear H; obtain ⟨z19a, z19b, z19c, z19d, z19e, z19f, z19g, z19h, z19i, z19j, y19a, y19b, y19c, y19d, y19e, y19f, y19g, y19h, y19i, y19j⟩ := cs10_ BK127.out; go_wp2
          go_meet
          case rel => exact ⟨_, (true), tS_, H', ⟨by have := HJ4.out; first | omega | exact Nat.le_refl _⟩, ⟨dB_ BK127⟩, ⟨dL1_ HB GE127⟩⟩
         ·rw [if_neg c18] at H; have c18b0 : decide (1000000 < a1_1) = false := decide_eq_false c18; clear c18
          by_cases c20 : a1_2 < 1
          ·rw [if_pos c20] at H; have c20b0 : decide (a1_2 < 1) = true := decide_eq_true c20; clear c20; have H' := Aside0.mk H; clear H; obtain ⟨z21a, z21b, z21c, z21d, z21e, z21f, z21g, z21h, z21i, z21j, y21a, y21b, y21c, y21d, y21e, y21f, y21g, y21h, y21i, y21j⟩ := cs10_ BK127.out; go_wp2
           go_meet
           case rel => exact ⟨_, (true), tS_, H', ⟨by have := HJ4.out; first | omega | exact Nat.le_refl _⟩, ⟨dB_ BK127⟩, ⟨dL1_ HB GE127⟩⟩
          ·rw [if_neg c20] at H; have c20b0 : decide (a1_2 < 1) = false := decide_eq_false c20; clear c20
           by_cases c22 : a1_2 > 64
           ·rw [if_pos c22] at H; have c22b0 : decide (64 < a1_2) = true := decide_eq_true c22; clear c22; have H' := Aside0.mk H; clear H; obtain ⟨z23a, z23b, z23c, z23d, z23e, z23f, z23g, z23h, z23i, z23j, y23a, y23b, y23c, y23d, y23e, y23f, y23g, y23h, y23i, y23j⟩ := cs10_ BK127.out; go_wp2
            go_meet
            case rel => exact ⟨_, (true), tS_, H', ⟨by have := HJ4.out; first | omega | exact Nat.le_refl _⟩, ⟨dB_ BK127⟩, ⟨dL1_ HB GE127⟩⟩
           ·rw [if_neg c22] at H; have c22b0 : decide (64 < a1_2) = false := decide_eq_false c22; clear c22
            by_cases c24 : (l1_3.length : Int) = (((rd_T39 l0 a1_0).f2).length : Int)
            ·rw [if_pos c24] at H; have c24b0 : ((l1_3.length : Int) == (((rd_T39 l0 a1_0).f2).length : Int)) = true := beq_iff_eq.mpr c24; have c24b1 : ((l1_3.length : Int) != (((rd_T39 l0 a1_0).f2).length : Int)) = false := bne_eq_false_iff_eq.mpr c24; have c24b2 : (l1_3.length == ((rd_T39 l0 a1_0).f2).length) = true := by first | simpa using c24 | (simp at c24 ⊢; omega)
             clear c24
             by_cases c25 : (l1_4.length : Int) = (((rd_T39 l0 a1_0).f2).length : Int)
             ·rw [if_pos c25] at H; have c25b0 : ((l1_4.length : Int) == (((rd_T39 l0 a1_0).f2).length : Int)) = true := beq_iff_eq.mpr c25; have c25b1 : ((l1_4.length : Int) != (((rd_T39 l0 a1_0).f2).length : Int)) = false := bne_eq_false_iff_eq.mpr c25; have c25b2 : (l1_4.length == ((rd_T39 l0 a1_0).f2).length) = true := by first | simpa using c25 | (simp at c25 ⊢; omega)
              clear c25
              by_cases c26 : (l1_5.length : Int) = (((rd_T39 l0 a1_0).f2).length : Int)
              ·rw [if_pos c26] at H; have c26b0 : ((l1_5.length : Int) == (((rd_T39 l0 a1_0).f2).length : Int)) = true := beq_iff_eq.mpr c26; have c26b1 : ((l1_5.length : Int) != (((rd_T39 l0 a1_0).f2).length : Int)) = false := bne_eq_false_iff_eq.mpr c26; have c26b2 : (l1_5.length == ((rd_T39 l0 a1_0).f2).length) = true := by first | simpa using c26 | (simp at c26 ⊢; omega)
               clear c26; have H' := Aside0.mk H; clear H; obtain ⟨z27a, z27b, z27c, z27d, z27e, z27f, z27g, z27h, z27i, z27j, y27a, y27b, y27c, y27d, y27e, y27f, y27g, y27h, y27i, y27j⟩ := cs10_ BK127.out; go_wp2
               go_meet
               case rel => exact ⟨_, (((l1_6.length : Int) != (((rd_T39 l0 a1_0).f2).length : Int))), tS_, H', ⟨by have := HJ4.out; first | omega | exact Nat.le_refl _⟩, ⟨dB_ BK127⟩, ⟨dL1_ HB GE127⟩⟩
              ·rw [if_neg c26] at H; have c26b0 : ((l1_5.length : Int) == (((rd_T39 l0 a1_0).f2).length : Int)) = false := beq_eq_false_iff_ne.mpr c26; have c26b1 : ((l1_5.length : Int) != (((rd_T39 l0 a1_0).f2).length : Int)) = true := bne_iff_ne.mpr c26; have c26b2 : (l1_5.length == ((rd_T39 l0 a1_0).f2).length) = false := by first | simpa using c26 | (simp at c26 ⊢; omega)
               have H' := Aside0.mk H; clear H; obtain ⟨z28a, z28b, z28c, z28d, z28e, z28f, z28g, z28h, z28i, z28j, y28a, y28b, y28c, y28d, y28e, y28f, y28g, y28h, y28i, y28j⟩ := cs10_ BK127.out; go_wp2
               go_meet
               case rel => exact ⟨_, (true), tS_, H', ⟨by have := HJ4.out; first | omega | exact Nat.le_refl _⟩, ⟨dB_ BK127⟩, ⟨dL1_ HB GE127⟩⟩
             ·rw [if_neg c25] at H; have c25b0 : ((l1_4.length : Int) == (((rd_T39 l0 a1_0).f2).length : Int)) = false := beq_eq_false_iff_ne.mpr c25; have c25b1 : ((l1_4.length : Int) != (((rd_T39 l0 a1_0).f2).length : Int)) = true := bne_iff_ne.mpr c25; have c25b2 : (l1_4.length == ((rd_T39 l0 a1_0).f2).length) = false := by first | simpa using c25 | (simp at c25 ⊢; omega)
              have H' := Aside0.mk H; clear H; obtain ⟨z29a, z29b, z29c, z29d, z29e, z29f, z29g, z29h, z29i, z29j, y29a, y29b, y29c, y29d, y29e, y29f, y29g, y29h, y29i, y29j⟩ := cs10_ BK127.out; go_wp2
              go_meet
              case rel => exact ⟨_, (true), tS_, H', ⟨by have := HJ4.out; first | omega | exact Nat.le_refl _⟩, ⟨dB_ BK127⟩, ⟨dL1_ HB GE127⟩⟩
            ·rw [if_neg c24] at H; have c24b0 : ((l1_3.length : Int) == (((rd_T39 l0 a1_0).f2).length : Int)) = false := beq_eq_false_iff_ne.mpr c24; have c24b1 : ((l1_3.length : Int) != (((rd_T39 l0 a1_0).f2).length : Int)) = true := bne_iff_ne.mpr c24; have c24b2 : (l1_3.length == ((rd_T39 l0 a1_0).f2).length) = false := by first | simpa using c24 | (simp at c24 ⊢; omega)
             have H' := Aside0.mk H; clear H; obtain ⟨z30a, z30b, z30c, z30d, z30e, z30f, z30g, z30h, z30i, z30j, y30a, y30b, y30c, y30d, y30e, y30f, y30g, y30h, y30i, y30j⟩ := cs10_ BK127.out; go_wp2
             go_meet
             case rel => exact ⟨_, (true), tS_, H', ⟨by have := HJ4.out; first | omega | exact Nat.le_refl _⟩, ⟨dB_ BK127⟩, ⟨dL1_ HB GE127⟩⟩
       case rest =>
        clear HC14; (try clear c4); (try clear c4b0); (try clear c4b1); (try clear c8); (try clear c11); (try clear c12); (try clear c12b0); (try clear c13); (try clear c13b0); (try clear c16); (try clear c18); (try clear c20); (try clear c22); (try clear c24); (try clear c25); (try clear c26); (try clear z15a z15b z15c z15d z15e z15f z15g z15h z15i z15j y15a y15b y15c y15d y15e y15f y15g y15h y15i y15j); (try clear hx129_0); (try clear hx129_1); (try clear hx129_2); (try clear p129); (try clear q129); obtain ⟨kq, x74_13, rfl, HA, HJ13, BK127, HB⟩ := hcut
        cases kq with
        | zero => exact absurd HA.out (by simp [plant_Validate.j1])
        | succ kj13 =>
         have H := HA.out; clear HA; simp only [plant_Validate.j1] at H
         by_cases c31 : x74_13 = true
         ·subst c31; rw [if_pos rfl] at H; obtain rfl := Option.some.inj H; go_wp2
          go_ret
          exact ⟨tE_, dL1_ HB GE127⟩
         ·replace c31 := Bool.eq_false_iff.mpr c31; subst c31; rw [if_neg (show ¬ (false = true) by decide)] at H; have HC32 := Aside0.mk H; clear H
          go_upto_region 9 with (fail)
          go_cut [105] (fun v105 wc => ∃ (kq : Nat) (x105_31 : Bool), v105 = .bool x105_31 ∧ Aside0 (plant_Validate.j2 kq x105_31 = some r) ∧ Aside0 (kq ≤ kj13) ∧ Aside0 (wc.heap[gb127]? = some (.cells #[.int .i64 a1_0, .int .i64 a1_1, .int .i64 a1_2, (.slice A1_3 l1_3.length c1_3), (.slice A1_4 l1_4.length c1_4), (.slice A1_5 l1_5.length c1_5), (.slice A1_6 l1_6.length c1_6), .int .i64 a1_7, .int .i64 a1_8, .bool a1_9] 25 (0, 0))) ∧ Aside0 (Below w.heap.size w wc))
          case first =>
           have H := HC32.out; clear HC32; replace H := Option.bind_eq_some_iff.mp H; obtain ⟨t130, A330, H⟩ := H; have A33 := Aside0.mk A330; clear A330
           by_cases c34 : t130 = true
           ·subst c34; rw [if_pos rfl] at H; replace H := Option.bind_eq_some_iff.mp H; obtain ⟨t131, A350, H⟩ := H; have A35 := Aside0.mk A350; clear A350
            by_cases c36 : t131 = true
            ·subst c36; rw [if_pos rfl] at H; replace H := Option.bind_eq_some_iff.mp H; obtain ⟨t132, A370, H⟩ := H; have A37 := Aside0.mk A370; clear A370
             by_cases c38 : t132 = true
             ·subst c38; rw [if_pos rfl] at H; replace H := Option.bind_eq_some_iff.mp H; obtain ⟨t133, A390, H⟩ := H; have A39 := Aside0.mk A390; clear A390
              by_cases c40 : t133 = true
              ·subst c40; rw [if_pos rfl] at H; obtain ⟨y134, hy134⟩ : ∃ y_ : List Int, y_ = (([a1_7, a1_8] : List Int)) := ⟨_, rfl⟩; replace H : ((plant_within.f kj13 1000000 y134).bind fun t137 => (plant_Validate.j2 kj13 (!t137))) = some r := by first | (rw [hy134]; with_reducible exact H) | (have H2_ := (Option.bind_some _ _).symm.trans H; rw [hy134]; with_reducible exact H2_) | (have H2_ := (Option.bind_some _ _).symm.trans H; with_reducible exact H2_) | with_reducible exact H | (rw [hy134]; exact H) | exact H
               have Ny134 := Aside0.mk hy134; clear hy134; replace H := Option.bind_eq_some_iff.mp H; obtain ⟨t137, A410, H⟩ := H; have A41 := Aside0.mk A410; clear A410; have H' := Aside0.mk H; clear H; obtain ⟨z42a, z42b, z42c, z42d, z42e, z42f, z42g, z42h, z42i, z42j, y42a, y42b, y42c, y42d, y42e, y42f, y42g, y42h, y42i, y42j⟩ := cs10_ BK127.out
               go_wp2_with (first | ((with_reducible refine gate_callee (f := 34) rfl ?_); refine gL_ (some 77) Try.func34 #[.int .i64 1000000, .slice A1_3 l1_3.length c1_3] ?_ rfl; (with_reducible refine (plant_within.calls kj13 1000000 _ _ l1_3 true _ ?side1 ?side2 A33.out).mono ?_); (case side1 => exact dC_ HR1_3 HB); (case side2 => exact HC1_3.out); rintro e w' ⟨rfl, ⟨nd, rfl⟩⟩; refine ⟨_, rfl, ?_⟩) | (go_at_call 34; (with_reducible refine (plant_within.calls kj13 7 _ _ l1_4 true _ ?side1 ?side2 A35.out).mono ?_); (case side1 => repeat (first | exact (Kd.C_below HR1_4.out (dL1_ HB GE127)) | (with_reducible refine Kd.C_alloc ?_ _) | (with_reducible refine Kd.C_drewN ?_ _) | (with_reducible refine Kd.C_drew ?_))); (case side2 => exact HC1_4.out); rintro e w' ⟨rfl, ⟨nd, rfl⟩⟩) | (go_at_call 34; (with_reducible refine (plant_within.calls kj13 1000000 _ _ l1_5 true _ ?side1 ?side2 A37.out).mono ?_); (case side1 => repeat (first | exact (Kd.C_below HR1_5.out (dL1_ HB GE127)) | (with_reducible refine Kd.C_alloc ?_ _) | (with_reducible refine Kd.C_drewN ?_ _) | (with_reducible refine Kd.C_drew ?_))); (case side2 => exact HC1_5.out); rintro e w' ⟨rfl, ⟨nd, rfl⟩⟩) | (go_at_call 34; (with_reducible refine (plant_within.calls kj13 1000000 _ _ l1_6 true _ ?side1 ?side2 A39.out).mono ?_); (case side1 => repeat (first | exact (Kd.C_below HR1_6.out (dL1_ HB GE127)) | (with_reducible refine Kd.C_alloc ?_ _) | (with_reducible refine Kd.C_drewN ?_ _) | (with_reducible refine Kd.C_drew ?_))); (case side2 => exact HC1_6.out); rintro e w' ⟨rfl, ⟨nd, rfl⟩⟩) | ((with_reducible refine gate_dst (N := 102) rfl ?_); (try (refine gate_guard (by rfl) ?_; dsimp only)); refine Kd.R_lit (Kd.int .i64) _ 3 ?hg (N := 102) ?hd (xs := ([a1_7, a1_8] : List Int)) (inner := [.int .i64 a1_7, .int .i64 a1_8]) (ok := fun _ => True) (okp := fun _ => True) ?hr ?hp (fun _ hk => hk) trivial (Below.refl _ _) (Nat.le_refl _) (by simp) ?_; (case hd => rfl); (case hg => rfl); (case hr => first | (go_simp; done) | (go_simp; rfl)); (case hp => exact (Reps.one (show Kd.M (Kd.int .i64) _ _ _ a1_7 [.int .i64 a1_7] from rfl) (Reps.one (show Kd.M (Kd.int .i64) _ _ _ a1_8 [.int .i64 a1_8] from rfl) (Reps.none _ _)))); intro v135 w43 ho44 hb hg_ hnew_; clear hg_ hnew_; (first | rw [← Ny134.out] at ho44 | (simp only [Int.reduceToNat] at ho44; rw [← Ny134.out] at ho44)); have HO136 := Aside0.mk (Kd.R_lower ho44 (below_size (dL1_ HB GE127))); replace BK127 := bk_ BK127 hb; replace HB := Aside0.mk (below_step (dL1_ HB GE127) hb); clear hb ho44; obtain ⟨Ao45, co45, eo45⟩ := Kd.R_slice HO136.out; subst eo45) | (go_at_call 34; (with_reducible refine (plant_within.calls kj13 1000000 _ _ y134 t137 _ ?side1 ?side2 A41.out).mono ?_); (case side1 => exact rC_ (Kd.R_reads' HO136.out).2.2); (case side2 => exact (Kd.R_reads' HO136.out).2.1); rintro e w' ⟨rfl, ⟨nd, rfl⟩⟩))
               go_meet
               case rel => exact ⟨_, (!t137), tS_, H', ⟨by have := HJ4.out; have := HJ13.out; first | omega | exact Nat.le_refl _⟩, ⟨dB_ BK127⟩, ⟨dL1_ HB GE127⟩⟩
              ·replace c40 := Bool.eq_false_iff.mpr c40; subst c40; rw [if_neg (show ¬ (false = true) by decide)] at H; have H' := Aside0.mk H; clear H; obtain ⟨z46a, z46b, z46c, z46d, z46e, z46f, z46g, z46h, z46i, z46j, y46a, y46b, y46c, y46d, y46e, y46f, y46g, y46h, y46i, y46j⟩ := cs10_ BK127.out
               go_wp2_with (first | ((with_reducible refine gate_callee (f := 34) rfl ?_); refine gL_ (some 77) Try.func34 #[.int .i64 1000000, .slice A1_3 l1_3.length c1_3] ?_ rfl; (with_reducible refine (plant_within.calls kj13 1000000 _ _ l1_3 true _ ?side1 ?side2 A33.out).mono ?_); (case side1 => exact dC_ HR1_3 HB); (case side2 => exact HC1_3.out); rintro e w' ⟨rfl, ⟨nd, rfl⟩⟩; refine ⟨_, rfl, ?_⟩) | (go_at_call 34; (with_reducible refine (plant_within.calls kj13 7 _ _ l1_4 true _ ?side1 ?side2 A35.out).mono ?_); (case side1 => repeat (first | exact (Kd.C_below HR1_4.out (dL1_ HB GE127)) | (with_reducible refine Kd.C_alloc ?_ _) | (with_reducible refine Kd.C_drewN ?_ _) | (with_reducible refine Kd.C_drew ?_))); (case side2 => exact HC1_4.out); rintro e w' ⟨rfl, ⟨nd, rfl⟩⟩) | (go_at_call 34; (with_reducible refine (plant_within.calls kj13 1000000 _ _ l1_5 true _ ?side1 ?side2 A37.out).mono ?_); (case side1 => repeat (first | exact (Kd.C_below HR1_5.out (dL1_ HB GE127)) | (with_reducible refine Kd.C_alloc ?_ _) | (with_reducible refine Kd.C_drewN ?_ _) | (with_reducible refine Kd.C_drew ?_))); (case side2 => exact HC1_5.out); rintro e w' ⟨rfl, ⟨nd, rfl⟩⟩) | (go_at_call 34; (with_reducible refine (plant_within.calls kj13 1000000 _ _ l1_6 false _ ?side1 ?side2 A39.out).mono ?_); (case side1 => repeat (first | exact (Kd.C_below HR1_6.out (dL1_ HB GE127)) | (with_reducible refine Kd.C_alloc ?_ _) | (with_reducible refine Kd.C_drewN ?_ _) | (with_reducible refine Kd.C_drew ?_))); (case side2 => exact HC1_6.out); rintro e w' ⟨rfl, ⟨nd, rfl⟩⟩))
               go_meet
               case rel => exact ⟨_, (true), tS_, H', ⟨by have := HJ4.out; have := HJ13.out; first | omega | exact Nat.le_refl _⟩, ⟨dB_ BK127⟩, ⟨dL1_ HB GE127⟩⟩
             ·replace c38 := Bool.eq_false_iff.mpr c38; subst c38; rw [if_neg (show ¬ (false = true) by decide)] at H; have H' := Aside0.mk H; clear H; obtain ⟨z47a, z47b, z47c, z47d, z47e, z47f, z47g, z47h, z47i, z47j, y47a, y47b, y47c, y47d, y47e, y47f, y47g, y47h, y47i, y47j⟩ := cs10_ BK127.out
              go_wp2_with (first | ((with_reducible refine gate_callee (f := 34) rfl ?_); refine gL_ (some 77) Try.func34 #[.int .i64 1000000, .slice A1_3 l1_3.length c1_3] ?_ rfl; (with_reducible refine (plant_within.calls kj13 1000000 _ _ l1_3 true _ ?side1 ?side2 A33.out).mono ?_); (case side1 => exact dC_ HR1_3 HB); (case side2 => exact HC1_3.out); rintro e w' ⟨rfl, ⟨nd, rfl⟩⟩; refine ⟨_, rfl, ?_⟩) | (go_at_call 34; (with_reducible refine (plant_within.calls kj13 7 _ _ l1_4 true _ ?side1 ?side2 A35.out).mono ?_); (case side1 => repeat (first | exact (Kd.C_below HR1_4.out (dL1_ HB GE127)) | (with_reducible refine Kd.C_alloc ?_ _) | (with_reducible refine Kd.C_drewN ?_ _) | (with_reducible refine Kd.C_drew ?_))); (case side2 => exact HC1_4.out); rintro e w' ⟨rfl, ⟨nd, rfl⟩⟩) | (go_at_call 34; (with_reducible refine (plant_within.calls kj13 1000000 _ _ l1_5 false _ ?side1 ?side2 A37.out).mono ?_); (case side1 => repeat (first | exact (Kd.C_below HR1_5.out (dL1_ HB GE127)) | (with_reducible refine Kd.C_alloc ?_ _) | (with_reducible refine Kd.C_drewN ?_ _) | (with_reducible refine Kd.C_drew ?_))); (case side2 => exact HC1_5.out); rintro e w' ⟨rfl, ⟨nd, rfl⟩⟩))
              go_meet
              case rel => exact ⟨_, (true), tS_, H', ⟨by have := HJ4.out; have := HJ13.out; first | omega | exact Nat.le_refl _⟩, ⟨dB_ BK127⟩, ⟨dL1_ HB GE127⟩⟩
            ·replace c36 := Bool.eq_false_iff.mpr c36; subst c36; rw [if_neg (show ¬ (false = true) by decide)] at H; have H' := Aside0.mk H; clear H; obtain ⟨z48a, z48b, z48c, z48d, z48e, z48f, z48g, z48h, z48i, z48j, y48a, y48b, y48c, y48d, y48e, y48f, y48g, y48h, y48i, y48j⟩ := cs10_ BK127.out
             go_wp2_with (first | ((with_reducible refine gate_callee (f := 34) rfl ?_); refine gL_ (some 77) Try.func34 #[.int .i64 1000000, .slice A1_3 l1_3.length c1_3] ?_ rfl; (with_reducible refine (plant_within.calls kj13 1000000 _ _ l1_3 true _ ?side1 ?side2 A33.out).mono ?_); (case side1 => exact dC_ HR1_3 HB); (case side2 => exact HC1_3.out); rintro e w' ⟨rfl, ⟨nd, rfl⟩⟩; refine ⟨_, rfl, ?_⟩) | (go_at_call 34; (with_reducible refine (plant_within.calls kj13 7 _ _ l1_4 false _ ?side1 ?side2 A35.out).mono ?_); (case side1 => repeat (first | exact (Kd.C_below HR1_4.out (dL1_ HB GE127)) | (with_reducible refine Kd.C_alloc ?_ _) | (with_reducible refine Kd.C_drewN ?_ _) | (with_reducible refine Kd.C_drew ?_))); (case side2 => exact HC1_4.out); rintro e w' ⟨rfl, ⟨nd, rfl⟩⟩))
             go_meet
             case rel => exact ⟨_, (true), tS_, H', ⟨by have := HJ4.out; have := HJ13.out; first | omega | exact Nat.le_refl _⟩, ⟨dB_ BK127⟩, ⟨dL1_ HB GE127⟩⟩
           ·replace c34 := Bool.eq_false_iff.mpr c34; subst c34; rw [if_neg (show ¬ (false = true) by decide)] at H; have H' := Aside0.mk H; clear H; obtain ⟨z49a, z49b, z49c, z49d, z49e, z49f, z49g, z49h, z49i, z49j, y49a, y49b, y49c, y49d, y49e, y49f, y49g, y49h, y49i, y49j⟩ := cs10_ BK127.out
            go_wp2_with (first | ((with_reducible refine gate_callee (f := 34) rfl ?_); refine gL_ (some 77) Try.func34 #[.int .i64 1000000, .slice A1_3 l1_3.length c1_3] ?_ rfl; (with_reducible refine (plant_within.calls kj13 1000000 _ _ l1_3 false _ ?side1 ?side2 A33.out).mono ?_); (case side1 => exact dC_ HR1_3 HB); (case side2 => exact HC1_3.out); rintro e w' ⟨rfl, ⟨nd, rfl⟩⟩; refine ⟨_, rfl, ?_⟩))
            go_meet
            case rel => exact ⟨_, (true), tS_, H', ⟨by have := HJ4.out; have := HJ13.out; first | omega | exact Nat.le_refl _⟩, ⟨dB_ BK127⟩, ⟨dL1_ HB GE127⟩⟩
          case rest =>
           clear HC32; (try clear c4); (try clear c4b0); (try clear c4b1); (try clear c8); (try clear c11); (try clear c12); (try clear c12b0); (try clear c13); (try clear c13b0); (try clear c16); (try clear c18); (try clear c20); (try clear c22); (try clear c24); (try clear c25); (try clear c26); (try clear c31); (try clear z15a z15b z15c z15d z15e z15f z15g z15h z15i z15j y15a y15b y15c y15d y15e y15f y15g y15h y15i y15j); (try clear hx129_0); (try clear hx129_1); (try clear hx129_2); (try clear p129); (try clear q129); obtain ⟨kq, x105_31, rfl, HA, HJ31, BK127, HB⟩ := hcut
           cases kq with
           | zero => exact absurd HA.out (by simp [plant_Validate.j2])
           | succ kj31 =>
            have H := HA.out; clear HA; simp only [plant_Validate.j2] at H
            by_cases c50 : x105_31 = true
            ·subst c50; rw [if_pos rfl] at H; obtain rfl := Option.some.inj H; go_wp2
             go_ret
             exact ⟨tE_, dL1_ HB GE127⟩
            ·replace c50 := Bool.eq_false_iff.mpr c50; subst c50; rw [if_neg (show ¬ (false = true) by decide)] at H; obtain rfl := Option.some.inj H; go_wp2
             go_ret
             exact ⟨tE_, dL1_ HB GE127⟩
      ·rw [if_neg c13] at H; exact absurd H (by simp)
     ·rw [if_neg c12] at H; exact absurd H (by simp)
 ·rw [if_neg c4] at H; have c4b0 : (t128 == 0) = false := beq_eq_false_iff_ne.mpr c4; have c4b1 : (t128 != 0) = true := bne_iff_ne.mpr c4; obtain rfl := Option.some.inj H
  go_enter Try.func15, Try.ntmps15
  go_wp2_with (first | ((with_reducible refine gate_dst (N := 3) rfl ?_); (try (refine gate_guard (by rfl) ?_; dsimp only)); refine bx_ (N := 3) (cs := #[.int .i64 a1_0, .int .i64 a1_1, .int .i64 a1_2, .slice A1_3 l1_3.length c1_3, .slice A1_4 l1_4.length c1_4, .slice A1_5 l1_5.length c1_5, .slice A1_6 l1_6.length c1_6, .int .i64 a1_7, .int .i64 a1_8, .bool a1_9]) (t := 25) ?_; intro gb127 hg w51 hbox hb; have BK127 := Aside0.mk (hbox); have GW127 := Aside0.mk ((dS_ hg (dL_ HB) : w.heap.size ≤ gb127)); have GE127 := GW127; replace HB := Aside0.mk (below_step (dL_ HB) hb); clear hb hbox hg) | ((with_reducible refine gate_callee (f := 33) rfl ?_); refine gL_ (some 8) Try.func33 #[.slice A0 l0.length c0] ?_ rfl; (with_reducible refine (plant_ValidateKinds.calls k _ _ l0 t128 _ ?side1 ?side2 A3.out).mono ?_); (case side1 => exact dC_ HR0 HB); (case side2 => exact HC0.out); rintro e w52 ⟨rfl, hb⟩; refine ⟨_, rfl, ?_⟩; replace BK127 := bk_ BK127 hb; replace HB := Aside0.mk (below_step (dL1_ HB GE127) hb)))
  go_ret
  exact ⟨tE_, dL1_ HB GE127⟩

end Go.Proofs.Ytnkgelnkoljgdaa.Q
namespace Go.Proofs.Ytnkgelnkoljgdaa.Q
open Go.RowKit Go.Proofs.YtnkgelnkoljgdaaPrs Go.Proofs.YtnkgelnkoljgdaaOwn Go.Proofs.YtnkgelnkoljgdaaW.PrintWords Go.Proofs.YtnkgelnkoljgdaaW.PrintLast Go.Proofs.YtnkgelnkoljgdaaW.PrintMore
attribute [local go_sem] max2_int min2_int max_two min_two max_three min_three max_four min_four   -- for this text's walks alone
set_option linter.unusedVariables false
set_option linter.unusedSimpArgs false

/-! ### plant_argued: function 38 -/
def plant_argued.j0 : Nat → Bool → Option (Int)
  | 0, _ => none
  | k + 1, x29 => if x29 = true then (some 1) else (some 0)
def plant_argued.f (k : Nat) (l0 : List (S39)) (a1_0 : Int) (a1_1 : Int) (a1_2 : Int) (l1_3 : List Int) (l1_4 : List Int) (l1_5 : List Int) (l1_6 : List Int) (a1_7 : Int) (a1_8 : Int) (a1_9 : Bool) (a2 : Int) (a3 : Int) : Option (Int) := (plant_Validate.f k l0 a1_0 a1_1 a1_2 l1_3 l1_4 l1_5 l1_6 a1_7 a1_8 a1_9).bind fun t139 => (if t139 = 0 then (if a3 < 0 then (plant_argued.j0 k true) else (if a3 > 1000000 then (plant_argued.j0 k true) else (if a2 < 0 then (plant_argued.j0 k true) else (plant_argued.j0 k (decide (a2 ≥ 16)))))) else (some t139))
theorem plant_argued.mono_l : ∀ k, (∀ y0, LeO (plant_argued.j0 k y0) (plant_argued.j0 (k + 1) y0))
  | 0 => fun _ r h => by simp [plant_argued.j0] at h
  | k + 1 => by
    have ih0 := plant_argued.mono_l k
    · intro y0
      unfold plant_argued.j0
      repeat' first
      | (with_reducible first | apply ih0 | apply plant_Validate.mono | exact LeO.refl _ | exact LeO.none _ | refine LeO.ite ?_ ?_ | refine LeO.bind ?_ (fun _ => ?_))
theorem plant_argued.mono : ∀ a0 a1 a2 a3 a4 a5 a6 a7 a8 a9 a10 a11 a12 k, LeO (plant_argued.f k a0 a1 a2 a3 a4 a5 a6 a7 a8 a9 a10 a11 a12) (plant_argued.f (k + 1) a0 a1 a2 a3 a4 a5 a6 a7 a8 a9 a10 a11 a12) := by
  intro a0 a1 a2 a3 a4 a5 a6 a7 a8 a9 a10 a11 a12 k; have ih0 := plant_argued.mono_l k
  unfold plant_argued.f
  repeat' first
      | (with_reducible first | apply ih0 | apply plant_Validate.mono | exact LeO.refl _ | exact LeO.none _ | refine LeO.ite ?_ ?_ | refine LeO.bind ?_ (fun _ => ?_))
set_option maxHeartbeats 8000000 in
set_option maxRecDepth 100000 in
theorem plant_argued.calls (k : Nat) (A0 : Option Addr) (c0 : Nat) (l0 : List (S39)) (a1_0 : Int) (a1_1 : Int) (a1_2 : Int) (A1_3 : Option Addr) (c1_3 : Nat) (l1_3 : List Int) (A1_4 : Option Addr) (c1_4 : Nat) (l1_4 : List Int) (A1_5 : Option Addr) (c1_5 : Nat) (l1_5 : List Int) (A1_6 : Option Addr) (c1_6 : Nat) (l1_6 : List Int) (a1_7 : Int) (a1_8 : Int) (a1_9 : Bool) (a2 : Int) (a3 : Int) (r : Int) (w : World) (hr0 : Kd.C k39 w A0 l0.length l0) (hc0 : l0.length ≤ c0) (hr1_3 : Kd.C (Kd.int .i64) w A1_3 l1_3.length l1_3) (hc1_3 : l1_3.length ≤ c1_3) (hr1_4 : Kd.C (Kd.int .i64) w A1_4 l1_4.length l1_4) (hc1_4 : l1_4.length ≤ c1_4) (hr1_5 : Kd.C (Kd.int .i64) w A1_5 l1_5.length l1_5) (hc1_5 : l1_5.length ≤ c1_5) (hr1_6 : Kd.C (Kd.int .i64) w A1_6 l1_6.length l1_6) (hc1_6 : l1_6.length ≤ c1_6) (h : plant_argued.f k l0 a1_0 a1_1 a1_2 l1_3 l1_4 l1_5 l1_6 a1_7 a1_8 a1_9 a2 a3 = some r) :
    Calls Try.prog 38 #[.slice A0 l0.length c0, .agg #[.int .i64 a1_0, .int .i64 a1_1, .int .i64 a1_2, .slice A1_3 l1_3.length c1_3, .slice A1_4 l1_4.length c1_4, .slice A1_5 l1_5.length c1_5, .slice A1_6 l1_6.length c1_6, .int .i64 a1_7, .int .i64 a1_8, .bool a1_9], .int .i64 a2, .int .i64 a3] w fun e w' => e = .returned (.int .i64 r) ∧ Below w.heap.size w w' := by
 have hu25 := Try.underlying25; have HR0 := Aside0.mk hr0; have HC0 := Aside0.mk hc0; clear hr0 hc0; have HR1_3 := Aside0.mk hr1_3; have HC1_3 := Aside0.mk hc1_3; clear hr1_3 hc1_3; have HR1_4 := Aside0.mk hr1_4; have HC1_4 := Aside0.mk hc1_4; clear hr1_4 hc1_4; have HR1_5 := Aside0.mk hr1_5; have HC1_5 := Aside0.mk hc1_5; clear hr1_5 hc1_5; have HR1_6 := Aside0.mk hr1_6; have HC1_6 := Aside0.mk hc1_6; clear hr1_6 hc1_6; have HB := Aside0.mk (Below.refl w.heap.size w); have H : ((plant_Validate.f k l0 a1_0 a1_1 a1_2 l1_3 l1_4 l1_5 l1_6 a1_7 a1_8 a1_9).bind fun t139 => (if t139 = 0 then (if a3 < 0 then (plant_argued.j0 k true) else (if a3 > 1000000 then (plant_argued.j0 k true) else (if a2 < 0 then (plant_argued.j0 k true) else (plant_argued.j0 k (decide (a2 ≥ 16)))))) else (some t139))) = some r := h; clear h; replace H := Option.bind_eq_some_iff.mp H; obtain ⟨t139, A50, H⟩ := H; have A5 := Aside0.mk A50; clear A50
 by_cases c6 : t139 = 0
 ·rw [if_pos c6] at H; have c6b0 : (t139 == 0) = true := beq_iff_eq.mpr c6; have c6b1 : (t139 != 0) = false := bne_eq_false_iff_eq.mpr c6; clear c6; have HC7 := Aside0.mk H; clear H
  go_enter Try.func38, Try.ntmps38
  go_upto_region 4 with (first | ((with_reducible refine gate_dst (N := 5) rfl ?_); refine bx_ (N := 5) (cs := #[.int .i64 a1_0, .int .i64 a1_1, .int .i64 a1_2, .slice A1_3 l1_3.length c1_3, .slice A1_4 l1_4.length c1_4, .slice A1_5 l1_5.length c1_5, .slice A1_6 l1_6.length c1_6, .int .i64 a1_7, .int .i64 a1_8, .bool a1_9]) (t := 25) ?_; intro gb138 hg w8 hbox hb; have BK138 := Aside0.mk (hbox); have GW138 := Aside0.mk ((dS_ hg (dL_ HB) : w.heap.size ≤ gb138)); have GE138 := GW138; replace HB := Aside0.mk (below_step (dL_ HB) hb); clear hb hbox hg; obtain ⟨z9a, z9b, z9c, z9d, z9e, z9f, z9g, z9h, z9i, z9j, y9a, y9b, y9c, y9d, y9e, y9f, y9g, y9h, y9i, y9j⟩ := cs10_ BK138.out) | ((with_reducible refine gate_callee (f := 15) rfl ?_); refine gL_ (some 12) Try.func15 #[.slice A0 l0.length c0, .agg #[.int .i64 a1_0, .int .i64 a1_1, .int .i64 a1_2, .slice A1_3 l1_3.length c1_3, .slice A1_4 l1_4.length c1_4, .slice A1_5 l1_5.length c1_5, .slice A1_6 l1_6.length c1_6, .int .i64 a1_7, .int .i64 a1_8, .bool a1_9]] ?_ rfl; (with_reducible refine (plant_Validate.calls k _ _ l0 a1_0 a1_1 a1_2 _ _ l1_3 _ _ l1_4 _ _ l1_5 _ _ l1_6 a1_7 a1_8 a1_9 t139 _ ?side1 ?side2 ?side3 ?side4 ?side5 ?side6 ?side7 ?side8 ?side9 ?side10 A5.out).mono ?_); (case side1 => exact dC_ HR0 HB); (case side2 => exact HC0.out); (case side3 => exact dC_ HR1_3 HB); (case side4 => exact HC1_3.out); (case side5 => exact dC_ HR1_4 HB); (case side6 => exact HC1_4.out); (case side7 => exact dC_ HR1_5 HB); (case side8 => exact HC1_5.out); (case side9 => exact dC_ HR1_6 HB); (case side10 => exact HC1_6.out); rintro e w10 ⟨rfl, hb⟩; refine ⟨_, rfl, ?_⟩; replace BK138 := bk_ BK138 hb; replace HB := Aside0.mk (below_step (dL1_ HB GE138) hb)))
  (try simp only [Act.put, List.setIfInBounds_toArray, List.set_cons_zero, List.set_cons_succ])
  go_cut [29] (fun v29 wc => ∃ (kq : Nat) (x29_6 : Bool), v29 = .bool x29_6 ∧ Aside0 (plant_argued.j0 kq x29_6 = some r) ∧ Aside0 (kq ≤ k) ∧ Aside0 (wc.heap[gb138]? = some (.cells #[.int .i64 a1_0, .int .i64 a1_1, .int .i64 a1_2, (.slice A1_3 l1_3.length c1_3), (.slice A1_4 l1_4.length c1_4), (.slice A1_5 l1_5.length c1_5), (.slice A1_6 l1_6.length c1_6), .int .i64 a1_7, .int .i64 a1_8, .bool a1_9] 25 (0, 0))) ∧ Aside0 (Below w.heap.size w wc))
  case first =>
   have H := HC7.out; clear HC7
   by_cases c11 : a3 < 0
   ·rw [if_pos c11] at H; have c11b0 : decide (a3 < 0) = true := decide_eq_true c11; clear c11
    (first | rw [c11b0] | (simp only [i64_w, i32_w]; rw [c11b0]) | skip)
    have H' := Aside0.mk H; clear H; go_wp2
    go_meet
    case rel => exact ⟨_, (true), tS_, H', ⟨by first | omega | exact Nat.le_refl _⟩, ⟨dB_ BK138⟩, ⟨dL1_ HB GE138⟩⟩
   ·rw [if_neg c11] at H; have c11b0 : decide (a3 < 0) = false := decide_eq_false c11; clear c11
    (first | rw [c11b0] | (simp only [i64_w, i32_w]; rw [c11b0]) | skip)
    by_cases c12 : a3 > 1000000
    ·rw [if_pos c12] at H; have c12b0 : decide (1000000 < a3) = true := decide_eq_true c12; clear c12; have H' := Aside0.mk H; clear H; go_wp2
     go_meet
     case rel => exact ⟨_, (true), tS_, H', ⟨by first | omega | exact Nat.le_refl _⟩, ⟨dB_ BK138⟩, ⟨dL1_ HB GE138⟩⟩
    ·rw [if_neg c12] at H; have c12b0 : decide (1000000 < a3) = false := decide_eq_false c12; clear c12
     by_cases c13 : a2 < 0
     ·rw [if_pos c13] at H; have c13b0 : decide (a2 < 0) = true := decide_eq_true c13; clear c13; have H' := Aside0.mk H; clear H; go_wp2
      go_meet
      case rel => exact ⟨_, (true), tS_, H', ⟨by first | omega | exact Nat.le_refl _⟩, ⟨dB_ BK138⟩, ⟨dL1_ HB GE138⟩⟩
     ·rw [if_neg c13] at H; have c13b0 : decide (a2 < 0) = false := decide_eq_false c13; clear c13; have H' := Aside0.mk H; clear H; go_wp2
      go_meet
      case rel => exact ⟨_, (decide (a2 ≥ 16)), tS_, H', ⟨by first | omega | exact Nat.le_refl _⟩, ⟨dB_ BK138⟩, ⟨dL1_ HB GE138⟩⟩
  case rest =>
   clear HC7; (try clear c6); (try clear c6b0); (try clear c6b1); (try clear c11); (try clear c12); (try clear c13); (try clear z9a z9b z9c z9d z9e z9f z9g z9h z9i z9j y9a y9b y9c y9d y9e y9f y9g y9h y9i y9j); obtain ⟨kq, x29_6, rfl, HA, HJ6, BK138, HB⟩ := hcut
   cases kq with
   | zero => exact absurd HA.out (by simp [plant_argued.j0])
   | succ kj6 =>
    have H := HA.out; clear HA; simp only [plant_argued.j0] at H
    by_cases c14 : x29_6 = true
    ·subst c14; rw [if_pos rfl] at H; obtain rfl := Option.some.inj H; go_wp2
     go_ret
     exact ⟨tE_, dL1_ HB GE138⟩
    ·replace c14 := Bool.eq_false_iff.mpr c14; subst c14; rw [if_neg (show ¬ (false = true) by decide)] at H; obtain rfl := Option.some.inj H; go_wp2
     go_ret
     exact ⟨tE_, dL1_ HB GE138⟩
 ·rw [if_neg c6] at H; have c6b0 : (t139 == 0) = false := beq_eq_false_iff_ne.mpr c6; have c6b1 : (t139 != 0) = true := bne_iff_ne.mpr c6; obtain rfl := Option.some.inj H
  go_enter Try.func38, Try.ntmps38
  go_wp2_with (first | ((with_reducible refine gate_dst (N := 5) rfl ?_); refine bx_ (N := 5) (cs := #[.int .i64 a1_0, .int .i64 a1_1, .int .i64 a1_2, .slice A1_3 l1_3.length c1_3, .slice A1_4 l1_4.length c1_4, .slice A1_5 l1_5.length c1_5, .slice A1_6 l1_6.length c1_6, .int .i64 a1_7, .int .i64 a1_8, .bool a1_9]) (t := 25) ?_; intro gb138 hg w15 hbox hb; have BK138 := Aside0.mk (hbox); have GW138 := Aside0.mk ((dS_ hg (dL_ HB) : w.heap.size ≤ gb138)); have GE138 := GW138; replace HB := Aside0.mk (below_step (dL_ HB) hb); clear hb hbox hg; obtain ⟨z16a, z16b, z16c, z16d, z16e, z16f, z16g, z16h, z16i, z16j, y16a, y16b, y16c, y16d, y16e, y16f, y16g, y16h, y16i, y16j⟩ := cs10_ BK138.out) | ((with_reducible refine gate_callee (f := 15) rfl ?_); refine gL_ (some 12) Try.func15 #[.slice A0 l0.length c0, .agg #[.int .i64 a1_0, .int .i64 a1_1, .int .i64 a1_2, .slice A1_3 l1_3.length c1_3, .slice A1_4 l1_4.length c1_4, .slice A1_5 l1_5.length c1_5, .slice A1_6 l1_6.length c1_6, .int .i64 a1_7, .int .i64 a1_8, .bool a1_9]] ?_ rfl; (with_reducible refine (plant_Validate.calls k _ _ l0 a1_0 a1_1 a1_2 _ _ l1_3 _ _ l1_4 _ _ l1_5 _ _ l1_6 a1_7 a1_8 a1_9 t139 _ ?side1 ?side2 ?side3 ?side4 ?side5 ?side6 ?side7 ?side8 ?side9 ?side10 A5.out).mono ?_); (case side1 => exact dC_ HR0 HB); (case side2 => exact HC0.out); (case side3 => exact dC_ HR1_3 HB); (case side4 => exact HC1_3.out); (case side5 => exact dC_ HR1_4 HB); (case side6 => exact HC1_4.out); (case side7 => exact dC_ HR1_5 HB); (case side8 => exact HC1_5.out); (case side9 => exact dC_ HR1_6 HB); (case side10 => exact HC1_6.out); rintro e w17 ⟨rfl, hb⟩; refine ⟨_, rfl, ?_⟩; replace BK138 := bk_ BK138 hb; replace HB := Aside0.mk (below_step (dL1_ HB GE138) hb)))
  go_ret
  exact ⟨tE_, dL1_ HB GE138⟩

end Go.Proofs.Ytnkgelnkoljgdaa.Q
namespace Go.Proofs.Ytnkgelnkoljgdaa.Q
open Go.RowKit Go.Proofs.YtnkgelnkoljgdaaPrs Go.Proofs.YtnkgelnkoljgdaaOwn Go.Proofs.YtnkgelnkoljgdaaW.PrintWords Go.Proofs.YtnkgelnkoljgdaaW.PrintLast Go.Proofs.YtnkgelnkoljgdaaW.PrintMore
attribute [local go_sem] max2_int min2_int max_two min_two max_three min_three max_four min_four   -- for this text's walks alone
set_option linter.unusedVariables false
set_option linter.unusedSimpArgs false

/-! ### plant_fresh: function 49 -/
-- IMPORT Derived.Laws.CopyOwn
/-- 'copy(xs, ys)' onto a row of the call's own that is as long: it holds ys. -/
theorem copyall_event {P : Program} {ops : Array Oper} {rest : List Oper} {o : Oper} {a : Act} {Q : Exit → Act → World → Prop} {W w0 : World} {base e : Nat} {ok : Nat → Prop} {v : Value} {xs ys : List Int} {A : Option Addr} {n c : Nat} (hgd : o.guard = none) (d s : Operand) (T : TypeId)
    (hop : o.op = .call { callee := .builtin .copy, args := #[d, s], argTypes := #[T, T] }) (hu : P.underlying T = some (.slice e)) (hsz : (P.info? e).map (·.size) = some 1) (hd : a.eval d = v) (hs : a.eval s = .slice A n c)
    (HO : (Kd.int .i64).R e W base ok v xs) (HR : (Kd.int .i64).C W A n ys) (hl : xs.length = ys.length) (hB : Below base w0 W)
    (h : ∀ w1 x, (Kd.int .i64).R e w1 base ok v ys → Below base w0 w1 → wpList P ops Q rest (a.put o.dst x) w1) : wpList P ops Q (o :: rest) a W := by
  have ho := Kd.own_of_R HO; obtain ⟨h1, h2⟩ := ho; have hn : ys.length = n := HR.1
  rcases h2 with ⟨rfl, hz⟩ | ⟨g, cap, cur, rfl, hbg, hg, hnc, hcm, hcs, htk⟩
  · have hy : ys = [] := List.eq_nil_of_length_eq_zero (by omega)
    subst hy; refine wpList_copy_nothing hgd d s T T hop e hu hsz none A 0 0 n c hd hs (by simp) ?_; exact h W _ (Kd.R_nil _ _ _ _ _) hB
  · have hcl : (ys.map (Value.int .i64)).length = Nat.min n xs.length := by rw [List.length_map]; rw [hl, hn]; exact (Nat.min_self n).symm
    refine wpList_copy_splice hgd d s T T hop e hu hsz (some ⟨g, 0, none⟩) A xs.length cap n c hd hs g 0 cur.toList e (by simpa using hg) (ys.map (Value.int .i64)) hcl ?_ (by simp; omega) (by intro u hu'; obtain ⟨q, _, rfl⟩ := List.mem_map.1 hu'; rfl) base w0 hB hbg ?_
    · intro hp
      refine ⟨rfl, ?_⟩; obtain ⟨ad, e1, e2⟩ := HR.2.2 (by simpa [hn] using hp); refine ⟨ad, e1, fun j u hj => ?_⟩; rw [List.getElem?_map] at hj; obtain ⟨q, hq, rfl⟩ := Option.map_eq_some_iff.1 hj; obtain ⟨cc, c1, c2, c3⟩ := e2 j q hq; have hcc : cc = [.int .i64 q] := c2; have := c3 0 (.int .i64 q) (by rw [hcc]; rfl)
      simpa [show (Kd.int .i64).sz = 1 from rfl] using this
    · intro w' hw' hb'
      refine h w' _ (Kd.R_of_own ⟨?_, Or.inr ⟨g, cap, _, by rw [hl], hbg, hw'.out, by omega, hcm, ?_, ?_⟩⟩ HO.1) hb'
      · simp [encs]
      · have := length_splice cur.toList 0 (ys.map (Value.int .i64)) (by simp; omega)
        simpa using this.trans (by simpa using hcs)
      · simp [splice, encs]
def plant_fresh.f (l0 : List Int) : Option (List Int) := if l0.length < 17592186044416 then some l0 else none
set_option maxHeartbeats 8000000 in
set_option maxRecDepth 100000 in
theorem plant_fresh.calls (A0 : Option Addr) (c0 : Nat) (l0 : List Int) (r : List Int) (w : World) (hr0 : Kd.C (Kd.int .i64) w A0 l0.length l0) (hc0 : l0.length ≤ c0) (h : plant_fresh.f l0 = some r) :
    Calls Try.prog 49 #[.slice A0 l0.length c0] w fun e w' => ∃ v0_ : Value, e = .returned (v0_) ∧ Kd.R (Kd.int .i64) 3 w' w.heap.size (fun _ => True) v0_ r ∧ Below w.heap.size w w' := by
  unfold plant_fresh.f at h
  have hlen : l0.length < 17592186044416 := by
    by_cases h1 : l0.length < 17592186044416
    · exact h1
    · rw [if_neg h1] at h; cases h
  rw [if_pos hlen] at h; obtain rfl := Option.some.inj h; clear h; have HR := Aside0.mk hr0; have HL := Aside0.mk hlen; clear hr0 hlen
  go_enter Try.func49, Try.ntmps49
  go_wp2_with (first | ((with_reducible refine gate_dst (N := 6) rfl ?_); refine Kd.R_make (Kd.int .i64) (w0 := w) w.heap.size 3 ?hg (N := 6) ?hd 23 (.tmp 5) (.tmp 5) ?ho (l0.length : Int) ?hx ?hy Try.underlying23 (.int .i64 0) 8 info3 rfl (by decide) (by decide) 0 (ok := fun _ => True) (okp := fun _ => True) (show Kd.M (Kd.int .i64) _ _ _ 0 [.int .i64 0] from rfl) (fun _ hk => hk) trivial (by omega) (by have := HL.out; omega) (Below.refl _ _) (Nat.le_refl _) ?_; (case hg => rfl); (case hd => rfl); (case ho => rfl); (case hx => first | rfl | (go_simp; done)); (case hy => first | rfl | (go_simp; done)); intro v1 w1 HO hb _ _; have HO1 := Aside0.mk HO; have HB1 := Aside0.mk hb; clear HO hb) | ((with_reducible refine gate_builtin (b := .copy) rfl ?_); refine copyall_event (e := 3) (base := w.heap.size) (w0 := w) (v := v1) (xs := List.replicate (l0.length : Int).toNat 0) (ys := l0) (A := A0) (n := l0.length) (c := c0) ?hg2 (.tmp 7) (.tmp 8) 23 ?ho2 Try.underlying23 (by kernel_rfl) ?hd2 ?hs2 HO1.out ?hr2 ?hl2 HB1.out ?_; (case hg2 => rfl); (case ho2 => rfl); (case hd2 => first | rfl | (go_simp; done)); (case hs2 => first | rfl | (go_simp; done)); (case hr2 => exact Kd.C_below HR.out HB1.out); (case hl2 => simp); intro w2 x2 HO2 hb2; have HO3 := Aside0.mk HO2; have HB3 := Aside0.mk hb2; clear HO2 hb2))
  go_ret
  exact ⟨v1, rfl, HO3.out, HB3.out⟩

end Go.Proofs.Ytnkgelnkoljgdaa.Q
