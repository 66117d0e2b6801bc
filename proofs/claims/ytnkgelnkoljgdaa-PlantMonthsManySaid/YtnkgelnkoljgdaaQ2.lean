-- PRINTED by print.py out of the translation. Not trusted: Lean checks it.
import Derived.Test.YtnkgelnkoljgdaaPrs
import Derived.Test.YtnkgelnkoljgdaaQ0
namespace Go.Proofs.Ytnkgelnkoljgdaa.Q
open Go.RowKit Go.Proofs.YtnkgelnkoljgdaaPrs Go.Proofs.YtnkgelnkoljgdaaOwn Go.Proofs.YtnkgelnkoljgdaaW.PrintWords Go.Proofs.YtnkgelnkoljgdaaW.PrintLast Go.Proofs.YtnkgelnkoljgdaaW.PrintMore
attribute [local go_sem] max2_int min2_int max_two min_two max_three min_three max_four min_four   -- for this text's walks alone
set_option linter.unusedVariables false
set_option linter.unusedSimpArgs false

/-! ### hinterlandlaw10_large: function 13 -/
mutual
def hinterlandlaw10_large.l0 : Nat → List (S39) → List (S39) → Int → Int → Int → Int → Int → List Int → List Int → List Int → List Int → Int → Int → Bool → Option (Bool)
  | 0, _, _, _, _, _, _, _, _, _, _, _, _, _, _ => none
  | k + 1, x0, x7, x8, x9, x102000, x102001, x102002, x102003, x102004, x102005, x102006, x102007, x102008, x102009 => if x9 < x8 then (if 0 ≤ x9 then (if x9 < (x7.length : Int) then (if (((rd_T39 x7 x9).f1).length : Int) > 300 then (hinterlandlaw10_large.j1 k x0 x7 x8 x9 true x102000 x102001 x102002 x102003 x102004 x102005 x102006 x102007 x102008 x102009) else (if (((rd_T39 x7 x9).f2).length : Int) > 300 then (hinterlandlaw10_large.j1 k x0 x7 x8 x9 true x102000 x102001 x102002 x102003 x102004 x102005 x102006 x102007 x102008 x102009) else (hinterlandlaw10_large.j1 k x0 x7 x8 x9 (decide ((((rd_T39 x7 x9).f0).size : Int) > 300)) x102000 x102001 x102002 x102003 x102004 x102005 x102006 x102007 x102008 x102009))) else (none)) else (none)) else (if (x0.length : Int) > 300 then (some true) else (if (x102003.length : Int) > 300 then (some true) else (if (x102004.length : Int) > 300 then (some true) else (if (x102005.length : Int) > 300 then (some true) else (some (decide ((x102006.length : Int) > 300)))))))
def hinterlandlaw10_large.j1 : Nat → List (S39) → List (S39) → Int → Int → Bool → Int → Int → Int → List Int → List Int → List Int → List Int → Int → Int → Bool → Option (Bool)
  | 0, _, _, _, _, _, _, _, _, _, _, _, _, _, _, _ => none
  | k + 1, x0, x7, x8, x9, x28, x102000, x102001, x102002, x102003, x102004, x102005, x102006, x102007, x102008, x102009 => if x28 = true then (some true) else (hinterlandlaw10_large.l0 k x0 x7 x8 (wrap64 (x9 + 1)) x102000 x102001 x102002 x102003 x102004 x102005 x102006 x102007 x102008 x102009)
end
def hinterlandlaw10_large.f (k : Nat) (l0 : List (S39)) (a1_0 : Int) (a1_1 : Int) (a1_2 : Int) (l1_3 : List Int) (l1_4 : List Int) (l1_5 : List Int) (l1_6 : List Int) (a1_7 : Int) (a1_8 : Int) (a1_9 : Bool) : Option (Bool) := hinterlandlaw10_large.l0 k l0 l0 (l0.length : Int) 0 a1_0 a1_1 a1_2 l1_3 l1_4 l1_5 l1_6 a1_7 a1_8 a1_9
theorem hinterlandlaw10_large.mono_l : ∀ k, (∀ y0 y1 y2 y3 y4 y5 y6 y7 y8 y9 y10 y11 y12 y13, LeO (hinterlandlaw10_large.l0 k y0 y1 y2 y3 y4 y5 y6 y7 y8 y9 y10 y11 y12 y13) (hinterlandlaw10_large.l0 (k + 1) y0 y1 y2 y3 y4 y5 y6 y7 y8 y9 y10 y11 y12 y13)) ∧ (∀ y0 y1 y2 y3 y4 y5 y6 y7 y8 y9 y10 y11 y12 y13 y14, LeO (hinterlandlaw10_large.j1 k y0 y1 y2 y3 y4 y5 y6 y7 y8 y9 y10 y11 y12 y13 y14) (hinterlandlaw10_large.j1 (k + 1) y0 y1 y2 y3 y4 y5 y6 y7 y8 y9 y10 y11 y12 y13 y14))
  | 0 => ⟨fun _ _ _ _ _ _ _ _ _ _ _ _ _ _ r h => by simp [hinterlandlaw10_large.l0] at h, fun _ _ _ _ _ _ _ _ _ _ _ _ _ _ _ r h => by simp [hinterlandlaw10_large.j1] at h⟩
  | k + 1 => by
    obtain ⟨ih0, ih1⟩ := hinterlandlaw10_large.mono_l k; refine ⟨?_, ?_⟩
    · intro y0 y1 y2 y3 y4 y5 y6 y7 y8 y9 y10 y11 y12 y13
      unfold hinterlandlaw10_large.l0
      repeat' first
      | (with_reducible first | apply ih0 | apply ih1 | exact LeO.refl _ | exact LeO.none _ | refine LeO.ite ?_ ?_ | refine LeO.bind ?_ (fun _ => ?_))
    · intro y0 y1 y2 y3 y4 y5 y6 y7 y8 y9 y10 y11 y12 y13 y14
      unfold hinterlandlaw10_large.j1
      repeat' first
      | (with_reducible first | apply ih0 | apply ih1 | exact LeO.refl _ | exact LeO.none _ | refine LeO.ite ?_ ?_ | refine LeO.bind ?_ (fun _ => ?_))
theorem hinterlandlaw10_large.mono : ∀ a0 a1 a2 a3 a4 a5 a6 a7 a8 a9 a10 k, LeO (hinterlandlaw10_large.f k a0 a1 a2 a3 a4 a5 a6 a7 a8 a9 a10) (hinterlandlaw10_large.f (k + 1) a0 a1 a2 a3 a4 a5 a6 a7 a8 a9 a10) := by
  intro a0 a1 a2 a3 a4 a5 a6 a7 a8 a9 a10 k; obtain ⟨ih0, ih1⟩ := hinterlandlaw10_large.mono_l k
  unfold hinterlandlaw10_large.f
  repeat' first
      | (with_reducible first | apply ih0 | apply ih1 | exact LeO.refl _ | exact LeO.none _ | refine LeO.ite ?_ ?_ | refine LeO.bind ?_ (fun _ => ?_))
set_option maxHeartbeats 8000000 in
set_option maxRecDepth 100000 in
theorem hinterlandlaw10_large.calls (k : Nat) (A0 : Option Addr) (c0 : Nat) (l0 : List (S39)) (a1_0 : Int) (a1_1 : Int) (a1_2 : Int) (A1_3 : Option Addr) (c1_3 : Nat) (l1_3 : List Int) (A1_4 : Option Addr) (c1_4 : Nat) (l1_4 : List Int) (A1_5 : Option Addr) (c1_5 : Nat) (l1_5 : List Int) (A1_6 : Option Addr) (c1_6 : Nat) (l1_6 : List Int) (a1_7 : Int) (a1_8 : Int) (a1_9 : Bool) (r : Bool) (w : World) (hr0 : Kd.C k39 w A0 l0.length l0) (hc0 : l0.length ≤ c0) (hr1_3 : Kd.C (Kd.int .i64) w A1_3 l1_3.length l1_3) (hc1_3 : l1_3.length ≤ c1_3) (hr1_4 : Kd.C (Kd.int .i64) w A1_4 l1_4.length l1_4) (hc1_4 : l1_4.length ≤ c1_4) (hr1_5 : Kd.C (Kd.int .i64) w A1_5 l1_5.length l1_5) (hc1_5 : l1_5.length ≤ c1_5) (hr1_6 : Kd.C (Kd.int .i64) w A1_6 l1_6.length l1_6) (hc1_6 : l1_6.length ≤ c1_6) (h : hinterlandlaw10_large.f k l0 a1_0 a1_1 a1_2 l1_3 l1_4 l1_5 l1_6 a1_7 a1_8 a1_9 = some r) :
    Calls Try.prog 13 #[.slice A0 l0.length c0, .agg #[.int .i64 a1_0, .int .i64 a1_1, .int .i64 a1_2, .slice A1_3 l1_3.length c1_3, .slice A1_4 l1_4.length c1_4, .slice A1_5 l1_5.length c1_5, .slice A1_6 l1_6.length c1_6, .int .i64 a1_7, .int .i64 a1_8, .bool a1_9]] w fun e w' => e = .returned (.bool r) ∧ Below w.heap.size w w' := by
 have hu25 := Try.underlying25; have hu39 := Try.underlying39; have HR0 := Aside0.mk hr0; have HC0 := Aside0.mk hc0; clear hr0 hc0; have HR1_3 := Aside0.mk hr1_3; have HC1_3 := Aside0.mk hc1_3; clear hr1_3 hc1_3; have HR1_4 := Aside0.mk hr1_4; have HC1_4 := Aside0.mk hc1_4; clear hr1_4 hc1_4; have HR1_5 := Aside0.mk hr1_5; have HC1_5 := Aside0.mk hc1_5; clear hr1_5 hc1_5; have HR1_6 := Aside0.mk hr1_6; have HC1_6 := Aside0.mk hc1_6; clear hr1_6 hc1_6; have HB := Aside0.mk (Below.refl w.heap.size w); have H : (hinterlandlaw10_large.l0 k l0 l0 (l0.length : Int) 0 a1_0 a1_1 a1_2 l1_3 l1_4 l1_5 l1_6 a1_7 a1_8 a1_9) = some r := h; clear h; have H' := Aside0.mk H; clear H
 go_enter Try.func13, Try.ntmps13
 go_wp2_with (first | ((with_reducible refine gate_dst (N := 3) rfl ?_); (try (refine gate_guard (by rfl) ?_; dsimp only)); refine bx_ (N := 3) (cs := #[.int .i64 a1_0, .int .i64 a1_1, .int .i64 a1_2, .slice A1_3 l1_3.length c1_3, .slice A1_4 l1_4.length c1_4, .slice A1_5 l1_5.length c1_5, .slice A1_6 l1_6.length c1_6, .int .i64 a1_7, .int .i64 a1_8, .bool a1_9]) (t := 25) ?_; intro gb101 hg w3 hbox hb; have BK101 := Aside0.mk (hbox); have GW101 := Aside0.mk ((dS_ hg (dL_ HB) : w.heap.size ≤ gb101)); have GE101 := GW101; replace HB := Aside0.mk (below_step (dL_ HB) hb); clear hb hbox hg))
 go_loopg [9] k (fun kq v9 w' => ∃ (x9_1 : Int), v9 = .int .i64 x9_1 ∧ Aside0 (hinterlandlaw10_large.l0 kq l0 l0 (l0.length : Int) x9_1 a1_0 a1_1 a1_2 l1_3 l1_4 l1_5 l1_6 a1_7 a1_8 a1_9 = some r) ∧ Aside0 (kq ≤ k) ∧ Aside0 (w'.heap[gb101]? = some (.cells #[.int .i64 a1_0, .int .i64 a1_1, .int .i64 a1_2, (.slice A1_3 l1_3.length c1_3), (.slice A1_4 l1_4.length c1_4), (.slice A1_5 l1_5.length c1_5), (.slice A1_6 l1_6.length c1_6), .int .i64 a1_7, .int .i64 a1_8, .bool a1_9] 25 (0, 0))) ∧ Aside0 (Below w.heap.size w w'))
 case atStart => exact ⟨(0), tS_, H', ⟨Nat.le_refl _⟩, ⟨dB_ BK101⟩, ⟨dL1_ HB GE101⟩⟩
 case round =>
  clear H'; obtain ⟨x9_1, rfl, HA, HK1, BK101, HB⟩ := hrel
  cases gk with
  | zero => exact absurd HA.out (by simp [hinterlandlaw10_large.l0])
  | succ k1 =>
   have H := HA.out; clear HA; simp only [hinterlandlaw10_large.l0] at H
   by_cases c4 : x9_1 < (l0.length : Int)
   ·rw [if_pos c4] at H; have c4b0 : decide (x9_1 < (l0.length : Int)) = true := decide_eq_true c4; clear c4
    by_cases c5 : 0 ≤ x9_1
    ·rw [if_pos c5] at H; have c5b0 : decide (0 ≤ x9_1) = true := decide_eq_true c5; clear c5
     by_cases c6 : x9_1 < (l0.length : Int)
     ·rw [if_pos c6] at H; have c6b0 : decide (x9_1 < (l0.length : Int)) = true := decide_eq_true c6; clear c6; have HC7 := Aside0.mk H; clear H; have p102 : 0 ≤ (x9_1 : Int) := of_decide_eq_true tW_; have q102 : x9_1 < (l0.length : Int) := of_decide_eq_true tW_; obtain ⟨ad102, A102_1, c102_1, A102_2, c102_2, e102, hx102_0, hx102_1, hx102_2, hl102_1, hi102_1, hl102_2, hi102_2⟩ := at_T39 HR0.out x9_1 p102 q102; cases e102; replace hx102_0 := bc_ HB hx102_0; replace hx102_1 := bc_ HB hx102_1; replace hx102_2 := bc_ HB hx102_2; have HR102_1 := Aside0.mk hi102_1; have HC102_1 := Aside0.mk hl102_1; clear hi102_1 hl102_1; have HR102_2 := Aside0.mk hi102_2; have HC102_2 := Aside0.mk hl102_2; clear hi102_2 hl102_2; replace p102 := eq_true p102; replace q102 := eq_true q102
      go_upto_region 4 with (first | ((with_reducible refine gate_dst (N := 6) rfl ?_); (try (refine gate_guard (by rfl) ?_; dsimp only)); refine bx_ (N := 6) (cs := #[.string (⟨#[]⟩ : ByteArray), .slice none 0 0, .slice none 0 0]) (t := 39) ?_; intro gb103 hg w8 hbox hb; have BK103 := Aside0.mk (hbox); have GW103 := Aside0.mk ((dS_ hg (dL1_ HB GE101) : w.heap.size ≤ gb103)); have GE103 := GW103; replace HB := Aside0.mk (below_step (dL1_ HB GE101) hb); have NB101_103 := nb_ hg BK101; have NB103_101 := nc_ hg BK101; replace BK101 := bk_ BK101 hb; clear hb hbox hg; have hnb9 := NB103_101.out; have hnc9 := NB101_103.out; obtain ⟨z10a, z10b, z10c, y10a, y10b, y10c⟩ := cs3_ BK103.out))
      (try simp only [Act.put, List.setIfInBounds_toArray, List.set_cons_zero, List.set_cons_succ])
      go_cut [28] (fun v28 wc => ∃ (kq : Nat) (x28_6 : Bool), v28 = .bool x28_6 ∧ Aside0 (hinterlandlaw10_large.j1 kq l0 l0 (l0.length : Int) x9_1 x28_6 a1_0 a1_1 a1_2 l1_3 l1_4 l1_5 l1_6 a1_7 a1_8 a1_9 = some r) ∧ Aside0 (kq ≤ k1) ∧ Aside0 (wc.heap[gb101]? = some (.cells #[.int .i64 a1_0, .int .i64 a1_1, .int .i64 a1_2, (.slice A1_3 l1_3.length c1_3), (.slice A1_4 l1_4.length c1_4), (.slice A1_5 l1_5.length c1_5), (.slice A1_6 l1_6.length c1_6), .int .i64 a1_7, .int .i64 a1_8, .bool a1_9] 25 (0, 0))) ∧ Aside0 (wc.heap[gb103]? = some (.cells #[.string ((rd_T39 l0 x9_1).f0), (.slice A102_1 ((rd_T39 l0 x9_1).f1).length c102_1), (.slice A102_2 ((rd_T39 l0 x9_1).f2).length c102_2)] 39 (0, 0))) ∧ Aside0 (Below w.heap.size w wc))
      case first =>
       have H := HC7.out; clear HC7
       by_cases c11 : (((rd_T39 l0 x9_1).f1).length : Int) > 300
       ·rw [if_pos c11] at H; have c11b0 : decide (300 < (((rd_T39 l0 x9_1).f1).length : Int)) = true := decide_eq_true c11; have c11b1 : decide (300 < ((rd_T39 l0 x9_1).f1).length) = true := decide_eq_true (by omega); clear c11
        (first | rw [c11b0] | (simp only [i64_w, i32_w]; rw [c11b0]) | skip)
        have H' := Aside0.mk H; clear H; have hnb12 := NB103_101.out; have hnc12 := NB101_103.out; obtain ⟨z13a, z13b, z13c, y13a, y13b, y13c⟩ := cs3_ BK103.out; go_wp2
        go_meet
        case rel => exact ⟨_, (true), tS_, H', ⟨by have := HK1.out; first | omega | exact Nat.le_refl _⟩, ⟨bz_ BK101⟩, ⟨bz_ BK103⟩, ⟨dL2_ HB GE101 GE103⟩⟩
       ·rw [if_neg c11] at H; have c11b0 : decide (300 < (((rd_T39 l0 x9_1).f1).length : Int)) = false := decide_eq_false c11; have c11b1 : decide (300 < ((rd_T39 l0 x9_1).f1).length) = false := decide_eq_false (by omega); clear c11
        (first | rw [c11b0] | (simp only [i64_w, i32_w]; rw [c11b0]) | skip)
        by_cases c14 : (((rd_T39 l0 x9_1).f2).length : Int) > 300
        ·rw [if_pos c14] at H; have c14b0 : decide (300 < (((rd_T39 l0 x9_1).f2).length : Int)) = true := decide_eq_true c14; have c14b1 : decide (300 < ((rd_T39 l0 x9_1).f2).length) = true := decide_eq_true (by omega); clear c14; have H' := Aside0.mk H; clear H; have hnb15 := NB103_101.out; have hnc15 := NB101_103.out; obtain ⟨z16a, z16b, z16c, y16a, y16b, y16c⟩ := cs3_ BK103.out; go_wp2
         go_meet
         case rel => exact ⟨_, (true), tS_, H', ⟨by have := HK1.out; first | omega | exact Nat.le_refl _⟩, ⟨bz_ BK101⟩, ⟨bz_ BK103⟩, ⟨dL2_ HB GE101 GE103⟩⟩
        ·rw [if_neg c14] at H; have c14b0 : decide (300 < (((rd_T39 l0 x9_1).f2).length : Int)) = false := decide_eq_false c14; have c14b1 : decide (300 < ((rd_T39 l0 x9_1).f2).length) = false := decide_eq_false (by omega); clear c14; have H' := Aside0.mk H; clear H; have hnb17 := NB103_101.out; have hnc17 := NB101_103.out; obtain ⟨z18a, z18b, z18c, y18a, y18b, y18c⟩ := cs3_ BK103.out; go_wp2
         go_meet
         case rel => exact ⟨_, (decide ((((rd_T39 l0 x9_1).f0).size : Int) > 300)), tS_, H', ⟨by have := HK1.out; first | omega | exact Nat.le_refl _⟩, ⟨bz_ BK101⟩, ⟨bz_ BK103⟩, ⟨dL2_ HB GE101 GE103⟩⟩
      case rest =>
       clear HC7; (try clear c4); (try clear c4b0); (try clear c5); (try clear c5b0); (try clear c6); (try clear c6b0); (try clear c11); (try clear c14); (try clear z10a z10b z10c y10a y10b y10c); (try clear hx102_0); (try clear hx102_1); (try clear hx102_2); (try clear p102); (try clear q102); obtain ⟨kq, x28_6, rfl, HA, HJ6, BK101, BK103, HB⟩ := hcut
       cases kq with
       | zero => exact absurd HA.out (by simp [hinterlandlaw10_large.j1])
       | succ kj6 =>
        have H := HA.out; clear HA; simp only [hinterlandlaw10_large.j1] at H
        by_cases c19 : x28_6 = true
        ·subst c19; rw [if_pos rfl] at H; obtain rfl := Option.some.inj H; go_wp2
         go_ret
         exact ⟨tE_, dL2_ HB GE101 GE103⟩
        ·replace c19 := Bool.eq_false_iff.mpr c19; subst c19; rw [if_neg (show ¬ (false = true) by decide)] at H; have H' := Aside0.mk H; clear H; go_wp2
         go_roundg kj6
         case measure => have := HK1.out; have := HJ6.out; omega
         case rel => exact ⟨(wrap64 (x9_1 + 1)), tS_, H', ⟨by have := HK1.out; have := HJ6.out; omega⟩, ⟨dB_ BK101⟩, ⟨dL2_ HB GE101 GE103⟩⟩
     ·rw [if_neg c6] at H; exact absurd H (by simp)
    ·rw [if_neg c5] at H; exact absurd H (by simp)
   ·rw [if_neg c4] at H; have c4b0 : decide (x9_1 < (l0.length : Int)) = false := decide_eq_false c4; clear c4
    by_cases c20 : (l0.length : Int) > 300
    ·rw [if_pos c20] at H; have c20b0 : decide (300 < (l0.length : Int)) = true := decide_eq_true c20; have c20b1 : decide (300 < l0.length) = true := decide_eq_true (by omega); clear c20; obtain rfl := Option.some.inj H; go_wp2
     go_ret
     exact ⟨tE_, dL1_ HB GE101⟩
    ·rw [if_neg c20] at H; have c20b0 : decide (300 < (l0.length : Int)) = false := decide_eq_false c20; have c20b1 : decide (300 < l0.length) = false := decide_eq_false (by omega); clear c20
     by_cases c21 : (l1_3.length : Int) > 300
     ·rw [if_pos c21] at H; have c21b0 : decide (300 < (l1_3.length : Int)) = true := decide_eq_true c21; have c21b1 : decide (300 < l1_3.length) = true := decide_eq_true (by omega); clear c21; obtain rfl := Option.some.inj H; obtain ⟨z22a, z22b, z22c, z22d, z22e, z22f, z22g, z22h, z22i, z22j, y22a, y22b, y22c, y22d, y22e, y22f, y22g, y22h, y22i, y22j⟩ := cs10_ BK101.out; go_wp2
      go_ret
      exact ⟨tE_, dL1_ HB GE101⟩
     ·rw [if_neg c21] at H; have c21b0 : decide (300 < (l1_3.length : Int)) = false := decide_eq_false c21; have c21b1 : decide (300 < l1_3.length) = false := decide_eq_false (by omega); clear c21
      by_cases c23 : (l1_4.length : Int) > 300
      ·rw [if_pos c23] at H; have c23b0 : decide (300 < (l1_4.length : Int)) = true := decide_eq_true c23; have c23b1 : decide (300 < l1_4.length) = true := decide_eq_true (by omega); clear c23; obtain rfl := Option.some.inj H; obtain ⟨z24a, z24b, z24c, z24d, z24e, z24f, z24g, z24h, z24i, z24j, y24a, y24b, y24c, y24d, y24e, y24f, y24g, y24h, y24i, y24j⟩ := cs10_ BK101.out; go_wp2
       go_ret
       exact ⟨tE_, dL1_ HB GE101⟩
      ·rw [if_neg c23] at H; have c23b0 : decide (300 < (l1_4.length : Int)) = false := decide_eq_false c23; have c23b1 : decide (300 < l1_4.length) = false := decide_eq_false (by omega); clear c23
       by_cases c25 : (l1_5.length : Int) > 300
       ·rw [if_pos c25] at H; have c25b0 : decide (300 < (l1_5.length : Int)) = true := decide_eq_true c25; have c25b1 : decide (300 < l1_5.length) = true := decide_eq_true (by omega); clear c25; obtain rfl := Option.some.inj H; obtain ⟨z26a, z26b, z26c, z26d, z26e, z26f, z26g, z26h, z26i, z26j, y26a, y26b, y26c, y26d, y26e, y26f, y26g, y26h, y26i, y26j⟩ := cs10_ BK101.out; go_wp2
        go_ret
        exact ⟨tE_, dL1_ HB GE101⟩
       ·rw [if_neg c25] at H; have c25b0 : decide (300 < (l1_5.length : Int)) = false := decide_eq_false c25; have c25b1 : decide (300 < l1_5.length) = false := decide_eq_false (by omega); clear c25; obtain rfl := Option.some.inj H; obtain ⟨z27a, z27b, z27c, z27d, z27e, z27f, z27g, z27h, z27i, z27j, y27a, y27b, y27c, y27d, y27e, y27f, y27g, y27h, y27i, y27j⟩ := cs10_ BK101.out; go_wp2
        go_ret
        exact ⟨tE_, dL1_ HB GE101⟩

end Go.Proofs.Ytnkgelnkoljgdaa.Q
namespace Go.Proofs.Ytnkgelnkoljgdaa.Q
open Go.RowKit Go.Proofs.YtnkgelnkoljgdaaPrs Go.Proofs.YtnkgelnkoljgdaaOwn Go.Proofs.YtnkgelnkoljgdaaW.PrintWords Go.Proofs.YtnkgelnkoljgdaaW.PrintLast Go.Proofs.YtnkgelnkoljgdaaW.PrintMore
attribute [local go_sem] max2_int min2_int max_two min_two max_three min_three max_four min_four   -- for this text's walks alone
set_option linter.unusedVariables false
set_option linter.unusedSimpArgs false

/-! ### plant_named: function 52 -/
mutual
def plant_named.l0 : Nat → ByteArray → Int → Int → Option (Bool)
  | 0, _, _, _ => none
  | k + 1, x0, x5, x6 => if x6 < x5 then (if 0 ≤ x6 then (if x6 < (x0.size : Int) then (if (bt x0 x6) < 97 then (plant_named.j1 k x0 x5 x6 true) else (plant_named.j1 k x0 x5 x6 (decide ((bt x0 x6) > 122)))) else (none)) else (none)) else (if x0.toList = ([] : List UInt8) then (some false) else (some (decide ((x0.size : Int) ≤ 12))))
def plant_named.j1 : Nat → ByteArray → Int → Int → Bool → Option (Bool)
  | 0, _, _, _, _ => none
  | k + 1, x0, x5, x6, x18 => if x18 = true then (some false) else (plant_named.l0 k x0 x5 (wrap64 (x6 + 1)))
end
def plant_named.f (k : Nat) (a0 : ByteArray) : Option (Bool) := plant_named.l0 k a0 (a0.size : Int) 0
theorem plant_named.mono_l : ∀ k, (∀ y0 y1 y2, LeO (plant_named.l0 k y0 y1 y2) (plant_named.l0 (k + 1) y0 y1 y2)) ∧ (∀ y0 y1 y2 y3, LeO (plant_named.j1 k y0 y1 y2 y3) (plant_named.j1 (k + 1) y0 y1 y2 y3))
  | 0 => ⟨fun _ _ _ r h => by simp [plant_named.l0] at h, fun _ _ _ _ r h => by simp [plant_named.j1] at h⟩
  | k + 1 => by
    obtain ⟨ih0, ih1⟩ := plant_named.mono_l k; refine ⟨?_, ?_⟩
    · intro y0 y1 y2
      unfold plant_named.l0
      repeat' first
      | (with_reducible first | apply ih0 | apply ih1 | exact LeO.refl _ | exact LeO.none _ | refine LeO.ite ?_ ?_ | refine LeO.bind ?_ (fun _ => ?_))
    · intro y0 y1 y2 y3
      unfold plant_named.j1
      repeat' first
      | (with_reducible first | apply ih0 | apply ih1 | exact LeO.refl _ | exact LeO.none _ | refine LeO.ite ?_ ?_ | refine LeO.bind ?_ (fun _ => ?_))
theorem plant_named.mono : ∀ a0 k, LeO (plant_named.f k a0) (plant_named.f (k + 1) a0) := by
  intro a0 k; obtain ⟨ih0, ih1⟩ := plant_named.mono_l k
  unfold plant_named.f
  repeat' first
      | (with_reducible first | apply ih0 | apply ih1 | exact LeO.refl _ | exact LeO.none _ | refine LeO.ite ?_ ?_ | refine LeO.bind ?_ (fun _ => ?_))
set_option maxHeartbeats 8000000 in
set_option maxRecDepth 100000 in
theorem plant_named.calls (k : Nat) (a0 : ByteArray) (r : Bool) (w : World) (h : plant_named.f k a0 = some r) :
    Calls Try.prog 52 #[.string a0] w fun e w' => e = .returned (.bool r) ∧ Drawn0 w w' := by
 have H : (plant_named.l0 k a0 (a0.size : Int) 0) = some r := h; clear h; have H' := Aside0.mk H; clear H
 go_enter Try.func52, Try.ntmps52
 go_wp2
 go_loopg [6] k (fun kq v6 w' => ∃ (x6_1 : Int), v6 = .int .i64 x6_1 ∧ Aside0 (plant_named.l0 kq a0 (a0.size : Int) x6_1 = some r) ∧ Aside0 (kq ≤ k) ∧ Drawn0 w w')
 case atStart => exact ⟨(0), tS_, H', ⟨Nat.le_refl _⟩, by repeat (first | exact Drawn0.refl _ | apply Drawn0.step)⟩
 case round =>
  clear H'; obtain ⟨x6_1, rfl, HA, HK1, ⟨m1, rfl⟩⟩ := hrel
  cases gk with
  | zero => exact absurd HA.out (by simp [plant_named.l0])
  | succ k1 =>
   have H := HA.out; clear HA; simp only [plant_named.l0] at H
   by_cases c2 : x6_1 < (a0.size : Int)
   ·rw [if_pos c2] at H; have c2b0 : decide (x6_1 < (a0.size : Int)) = true := decide_eq_true c2; clear c2; have HC3 := Aside0.mk H; clear H
    go_upto_region 4 with (fail)
    go_cut [18] (fun v18 wc => ∃ (kq : Nat) (x18_2 : Bool), v18 = .bool x18_2 ∧ Aside0 (plant_named.j1 kq a0 (a0.size : Int) x6_1 x18_2 = some r) ∧ Aside0 (kq ≤ k1) ∧ Drawn0 w wc)
    case first =>
     have H := HC3.out; clear HC3
     by_cases c4 : 0 ≤ x6_1
     ·rw [if_pos c4] at H; have c4b0 : decide (0 ≤ x6_1) = true := decide_eq_true c4; clear c4
      (first | rw [c4b0] | (simp only [i64_w, i32_w]; rw [c4b0]) | skip)
      by_cases c5 : x6_1 < (a0.size : Int)
      ·rw [if_pos c5] at H; have c5b0 : decide (x6_1 < (a0.size : Int)) = true := decide_eq_true c5; clear c5
       by_cases c7 : (bt a0 x6_1) < 97
       ·rw [if_pos c7] at H; have c7b0 : decide ((bt a0 x6_1) < 97) = true := decide_eq_true c7; clear c7; have H' := Aside0.mk H; clear H; have p6 : 0 ≤ (x6_1 : Int) := of_decide_eq_true tW_; have q6 : x6_1 < (a0.size : Int) := of_decide_eq_true tW_; have hx6 := bt_at a0 x6_1; replace p6 := eq_true p6; replace q6 := eq_true q6; go_wp2
        go_meet
        case rel => exact ⟨_, (true), tS_, H', ⟨by have := HK1.out; first | omega | exact Nat.le_refl _⟩, by repeat (first | exact Drawn0.refl _ | apply Drawn0.step)⟩
       ·rw [if_neg c7] at H; have c7b0 : decide ((bt a0 x6_1) < 97) = false := decide_eq_false c7; clear c7; have H' := Aside0.mk H; clear H; have p6 : 0 ≤ (x6_1 : Int) := of_decide_eq_true tW_; have q6 : x6_1 < (a0.size : Int) := of_decide_eq_true tW_; have hx6 := bt_at a0 x6_1; replace p6 := eq_true p6; replace q6 := eq_true q6; have p8 : 0 ≤ (x6_1 : Int) := of_decide_eq_true tW_; have q8 : x6_1 < (a0.size : Int) := of_decide_eq_true tW_; have hx8 := bt_at a0 x6_1; replace p8 := eq_true p8; replace q8 := eq_true q8; go_wp2
        go_meet
        case rel => exact ⟨_, (decide ((bt a0 x6_1) > 122)), tS_, H', ⟨by have := HK1.out; first | omega | exact Nat.le_refl _⟩, by repeat (first | exact Drawn0.refl _ | apply Drawn0.step)⟩
      ·rw [if_neg c5] at H; exact absurd H (by simp)
     ·rw [if_neg c4] at H; exact absurd H (by simp)
    case rest =>
     clear HC3; (try clear c2); (try clear c2b0); (try clear c4); (try clear c5); (try clear c7); obtain ⟨kq, x18_2, rfl, HA, HJ2, ⟨mc2, rfl⟩⟩ := hcut
     cases kq with
     | zero => exact absurd HA.out (by simp [plant_named.j1])
     | succ kj2 =>
      have H := HA.out; clear HA; simp only [plant_named.j1] at H
      by_cases c9 : x18_2 = true
      ·subst c9; rw [if_pos rfl] at H; obtain rfl := Option.some.inj H; go_wp2
       go_ret
       exact ⟨tS_, by repeat (first | exact Drawn0.refl _ | apply Drawn0.step)⟩
      ·replace c9 := Bool.eq_false_iff.mpr c9; subst c9; rw [if_neg (show ¬ (false = true) by decide)] at H; have H' := Aside0.mk H; clear H; go_wp2
       go_roundg kj2
       case measure => have := HK1.out; have := HJ2.out; omega
       case rel => exact ⟨(wrap64 (x6_1 + 1)), tS_, H', ⟨by have := HK1.out; have := HJ2.out; omega⟩, by repeat (first | exact Drawn0.refl _ | apply Drawn0.step)⟩
   ·rw [if_neg c2] at H; have c2b0 : decide (x6_1 < (a0.size : Int)) = false := decide_eq_false c2; clear c2
    by_cases c10 : a0.toList = ([] : List UInt8)
    ·rw [if_pos c10] at H; have c10b0 : (a0.toList == ([] : List UInt8)) = true := beq_iff_eq.mpr c10; have c10b1 : (a0.toList != ([] : List UInt8)) = false := bne_eq_false_iff_eq.mpr c10; clear c10; obtain rfl := Option.some.inj H; go_wp2
     go_ret
     exact ⟨tS_, by repeat (first | exact Drawn0.refl _ | apply Drawn0.step)⟩
    ·rw [if_neg c10] at H; have c10b0 : (a0.toList == ([] : List UInt8)) = false := beq_eq_false_iff_ne.mpr c10; have c10b1 : (a0.toList != ([] : List UInt8)) = true := bne_iff_ne.mpr c10; obtain rfl := Option.some.inj H; go_wp2
     go_ret
     exact ⟨tS_, by repeat (first | exact Drawn0.refl _ | apply Drawn0.step)⟩

end Go.Proofs.Ytnkgelnkoljgdaa.Q
