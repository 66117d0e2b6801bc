-- PRINTED by print.py out of the translation. Not trusted: Lean checks it.
import Derived.Test.YtgnahbjpockdmabPrs
import Derived.Test.YtgnahbjpockdmabQ0
import Derived.Test.YtgnahbjpockdmabQ6
import Derived.Test.YtgnahbjpockdmabQ1
namespace Go.Proofs.Ytgnahbjpockdmab.Q
open Go.RowKit Go.Proofs.YtgnahbjpockdmabPrs Go.Proofs.YtgnahbjpockdmabOwn Go.Proofs.YtgnahbjpockdmabW.PrintWords Go.Proofs.YtgnahbjpockdmabW.PrintLast Go.Proofs.YtgnahbjpockdmabW.PrintMore
attribute [local go_sem] max2_int min2_int max_two min_two max_three min_three max_four min_four   -- for this text's walks alone
set_option linter.unusedVariables false
set_option linter.unusedSimpArgs false

/-! ### fleet_ValidateModels: function 37 -/
mutual
def fleet_ValidateModels.l0 : Nat → List (S52) → List (S52) → Int → Int → Option (Int)
  | 0, _, _, _, _ => none
  | k + 1, x0, x12, x13, x14 => if x14 < x13 then (if 0 ≤ x14 then (if x14 < (x12.length : Int) then ((fleet_sound.f k ((rd_T52 x12 x14).f0) ((rd_T52 x12 x14).f1) ((rd_T52 x12 x14).f2) ((rd_T52 x12 x14).f3) ((rd_T52 x12 x14).f4) ((rd_T52 x12 x14).f5) ((rd_T52 x12 x14).f6) ((rd_T52 x12 x14).f7) ((rd_T52 x12 x14).f8) ((rd_T52 x12 x14).f9) ((rd_T52 x12 x14).f10) ((rd_T52 x12 x14).f11) ((rd_T52 x12 x14).f12) ((rd_T52 x12 x14).f13)).bind fun t158 => (if t158 = true then (fleet_ValidateModels.l0 k x0 x12 x13 (wrap64 (x14 + 1))) else (some 1))) else (none)) else (none)) else (fleet_ValidateModels.l1 k x0 x0 (x0.length : Int) 0)
def fleet_ValidateModels.l1 : Nat → List (S52) → List (S52) → Int → Int → Option (Int)
  | 0, _, _, _, _ => none
  | k + 1, x0, x22, x23, x24 => if x24 < x23 then (if 0 ≤ x24 then (if x24 < (x22.length : Int) then (if x24 ≤ (x0.length : Int) then ((some (x0.take (x24 : Int).toNat : List (S52))).bind fun y161 => (fleet_ValidateModels.l2 k x0 x22 x23 x24 y161 (y161.length : Int) 0 ((rd_T52 x22 x24).f0) ((rd_T52 x22 x24).f1) ((rd_T52 x22 x24).f2) ((rd_T52 x22 x24).f3) ((rd_T52 x22 x24).f4) ((rd_T52 x22 x24).f5) ((rd_T52 x22 x24).f6) ((rd_T52 x22 x24).f7) ((rd_T52 x22 x24).f8) ((rd_T52 x22 x24).f9) ((rd_T52 x22 x24).f10) ((rd_T52 x22 x24).f11) ((rd_T52 x22 x24).f12) ((rd_T52 x22 x24).f13))) else (none)) else (none)) else (none)) else (some 0)
def fleet_ValidateModels.l2 : Nat → List (S52) → List (S52) → Int → Int → List (S52) → Int → Int → ByteArray → Int → Int → Int → Int → Int → Int → Int → Int → Int → Int → Int → Int → Bool → Option (Int)
  | 0, _, _, _, _, _, _, _, _, _, _, _, _, _, _, _, _, _, _, _, _, _ => none
  | k + 1, x0, x22, x23, x24, x31, x32, x33, x161000, x161001, x161002, x161003, x161004, x161005, x161006, x161007, x161008, x161009, x161010, x161011, x161012, x161013 => if x33 < x32 then (if 0 ≤ x33 then (if x33 < (x31.length : Int) then (if ((rd_T52 x31 x33).f0).toList = x161000.toList then (some 3) else (fleet_ValidateModels.l2 k x0 x22 x23 x24 x31 x32 (wrap64 (x33 + 1)) x161000 x161001 x161002 x161003 x161004 x161005 x161006 x161007 x161008 x161009 x161010 x161011 x161012 x161013)) else (none)) else (none)) else (fleet_ValidateModels.l1 k x0 x22 x23 (wrap64 (x24 + 1)))
end
def fleet_ValidateModels.f (k : Nat) (l0 : List (S52)) : Option (Int) := if (l0.length : Int) > 40 then (some 4) else (fleet_ValidateModels.l0 k l0 l0 (l0.length : Int) 0)
theorem fleet_ValidateModels.mono_l : ∀ k, (∀ y0 y1 y2 y3, LeO (fleet_ValidateModels.l0 k y0 y1 y2 y3) (fleet_ValidateModels.l0 (k + 1) y0 y1 y2 y3)) ∧ (∀ y0 y1 y2 y3, LeO (fleet_ValidateModels.l1 k y0 y1 y2 y3) (fleet_ValidateModels.l1 (k + 1) y0 y1 y2 y3)) ∧ (∀ y0 y1 y2 y3 y4 y5 y6 y7 y8 y9 y10 y11 y12 y13 y14 y15 y16 y17 y18 y19 y20, LeO (fleet_ValidateModels.l2 k y0 y1 y2 y3 y4 y5 y6 y7 y8 y9 y10 y11 y12 y13 y14 y15 y16 y17 y18 y19 y20) (fleet_ValidateModels.l2 (k + 1) y0 y1 y2 y3 y4 y5 y6 y7 y8 y9 y10 y11 y12 y13 y14 y15 y16 y17 y18 y19 y20))
  | 0 => ⟨fun _ _ _ _ r h => by simp [fleet_ValidateModels.l0] at h, fun _ _ _ _ r h => by simp [fleet_ValidateModels.l1] at h, fun _ _ _ _ _ _ _ _ _ _ _ _ _ _ _ _ _ _ _ _ _ r h => by simp [fleet_ValidateModels.l2] at h⟩
  | k + 1 => by
    obtain ⟨ih0, ih1, ih2⟩ := fleet_ValidateModels.mono_l k; refine ⟨?_, ?_, ?_⟩
    · intro y0 y1 y2 y3
      unfold fleet_ValidateModels.l0
      repeat' first
      | (with_reducible first | apply ih0 | apply ih1 | apply ih2 | apply fleet_sound.mono | exact LeO.refl _ | exact LeO.none _ | refine LeO.ite ?_ ?_ | refine LeO.bind ?_ (fun _ => ?_))
    · intro y0 y1 y2 y3
      unfold fleet_ValidateModels.l1
      repeat' first
      | (with_reducible first | apply ih0 | apply ih1 | apply ih2 | apply fleet_sound.mono | exact LeO.refl _ | exact LeO.none _ | refine LeO.ite ?_ ?_ | refine LeO.bind ?_ (fun _ => ?_))
    · intro y0 y1 y2 y3 y4 y5 y6 y7 y8 y9 y10 y11 y12 y13 y14 y15 y16 y17 y18 y19 y20
      unfold fleet_ValidateModels.l2
      repeat' first
      | (with_reducible first | apply ih0 | apply ih1 | apply ih2 | apply fleet_sound.mono | exact LeO.refl _ | exact LeO.none _ | refine LeO.ite ?_ ?_ | refine LeO.bind ?_ (fun _ => ?_))
theorem fleet_ValidateModels.mono : ∀ a0 k, LeO (fleet_ValidateModels.f k a0) (fleet_ValidateModels.f (k + 1) a0) := by
  intro a0 k; obtain ⟨ih0, ih1, ih2⟩ := fleet_ValidateModels.mono_l k
  unfold fleet_ValidateModels.f
  repeat' first
      | (with_reducible first | apply ih0 | apply ih1 | apply ih2 | apply fleet_sound.mono | exact LeO.refl _ | exact LeO.none _ | refine LeO.ite ?_ ?_ | refine LeO.bind ?_ (fun _ => ?_))
set_option maxHeartbeats 8000000 in
set_option maxRecDepth 100000 in
theorem fleet_ValidateModels.calls (k : Nat) (A0 : Option Addr) (c0 : Nat) (l0 : List (S52)) (r : Int) (w : World) (hr0 : Kd.C k52 w A0 l0.length l0) (hc0 : l0.length ≤ c0) (h : fleet_ValidateModels.f k l0 = some r) :
    Calls Try.prog 37 #[.slice A0 l0.length c0] w fun e w' => e = .returned (.int .i64 r) ∧ Below w.heap.size w w' := by
 have hu52 := Try.underlying52; have HR0 := Aside0.mk hr0; have HC0 := Aside0.mk hc0; clear hr0 hc0; have HB := Aside0.mk (Below.refl w.heap.size w); have H : (if (l0.length : Int) > 40 then (some 4) else (fleet_ValidateModels.l0 k l0 l0 (l0.length : Int) 0)) = some r := h; clear h
 by_cases c2 : (l0.length : Int) > 40
 ·rw [if_pos c2] at H; have c2b0 : decide (40 < (l0.length : Int)) = true := decide_eq_true c2; have c2b1 : decide (40 < l0.length) = true := decide_eq_true (by omega); clear c2; obtain rfl := Option.some.inj H
  go_enter Try.func37, Try.ntmps37
  go_wp2
  go_ret
  exact ⟨tE_, dL_ HB⟩
 ·rw [if_neg c2] at H; have c2b0 : decide (40 < (l0.length : Int)) = false := decide_eq_false c2; have c2b1 : decide (40 < l0.length) = false := decide_eq_false (by omega); clear c2; have H' := Aside0.mk H; clear H
  go_enter Try.func37, Try.ntmps37
  go_wp2
  go_loopg [14] k (fun kq v14 w' => ∃ (x14_1 : Int), v14 = .int .i64 x14_1 ∧ Aside0 (fleet_ValidateModels.l0 kq l0 l0 (l0.length : Int) x14_1 = some r) ∧ Aside0 (kq ≤ k) ∧ Aside0 (Below w.heap.size w w'))
  case atStart => exact ⟨(0), tS_, H', ⟨Nat.le_refl _⟩, ⟨dL_ HB⟩⟩
  case round =>
   clear H'; (try clear c2); (try clear c2b0); (try clear c2b1); obtain ⟨x14_1, rfl, HA, HK1, HB⟩ := hrel
   cases gk with
   | zero => exact absurd HA.out (by simp [fleet_ValidateModels.l0])
   | succ k1 =>
    have H := HA.out; clear HA; simp only [fleet_ValidateModels.l0] at H
    by_cases c3 : x14_1 < (l0.length : Int)
    ·rw [if_pos c3] at H; have c3b0 : decide (x14_1 < (l0.length : Int)) = true := decide_eq_true c3; clear c3
     by_cases c4 : 0 ≤ x14_1
     ·rw [if_pos c4] at H; have c4b0 : decide (0 ≤ x14_1) = true := decide_eq_true c4; clear c4
      by_cases c5 : x14_1 < (l0.length : Int)
      ·rw [if_pos c5] at H; have c5b0 : decide (x14_1 < (l0.length : Int)) = true := decide_eq_true c5; clear c5; replace H := Option.bind_eq_some_iff.mp H; obtain ⟨t158, A60, H⟩ := H; have A6 := Aside0.mk A60; clear A60
       by_cases c7 : t158 = true
       ·subst c7; rw [if_pos rfl] at H; have H' := Aside0.mk H; clear H; have p156 : 0 ≤ (x14_1 : Int) := of_decide_eq_true tW_; have q156 : x14_1 < (l0.length : Int) := of_decide_eq_true tW_; obtain ⟨ad156, e156, hx156_0, hx156_1, hx156_2, hx156_3, hx156_4, hx156_5, hx156_6, hx156_7, hx156_8, hx156_9, hx156_10, hx156_11, hx156_12, hx156_13⟩ := at_T52 HR0.out x14_1 p156 q156; cases e156; replace hx156_0 := bc_ HB hx156_0; replace hx156_1 := bc_ HB hx156_1; replace hx156_2 := bc_ HB hx156_2; replace hx156_3 := bc_ HB hx156_3; replace hx156_4 := bc_ HB hx156_4; replace hx156_5 := bc_ HB hx156_5; replace hx156_6 := bc_ HB hx156_6; replace hx156_7 := bc_ HB hx156_7; replace hx156_8 := bc_ HB hx156_8; replace hx156_9 := bc_ HB hx156_9; replace hx156_10 := bc_ HB hx156_10; replace hx156_11 := bc_ HB hx156_11; replace hx156_12 := bc_ HB hx156_12; replace hx156_13 := bc_ HB hx156_13; replace p156 := eq_true p156; replace q156 := eq_true q156
        go_wp2_with (first | ((with_reducible refine gate_dst (N := 4) rfl ?_); refine bx_ (N := 4) (cs := #[.string (⟨#[]⟩ : ByteArray), .int .i64 0, .int .i64 0, .int .i64 0, .int .i64 0, .int .i64 0, .int .i64 0, .int .i64 0, .int .i64 0, .int .i64 0, .int .i64 0, .int .i64 0, .int .i64 0, .bool false]) (t := 52) ?_; intro gb157 hg w8 hbox hb; have BK157 := Aside0.mk (hbox); have GW157 := Aside0.mk ((dS_ hg (dL_ HB) : w.heap.size ≤ gb157)); have GE157 := GW157; replace HB := Aside0.mk (below_step (dL_ HB) hb); clear hb hbox hg; obtain ⟨z9a, z9b, z9c, z9d, z9e, z9f, z9g, z9h, z9i, z9j, z9k, z9l, z9m, z9n, y9a, y9b, y9c, y9d, y9e, y9f, y9g, y9h, y9i, y9j, y9k, y9l, y9m, y9n⟩ := cs14_ BK157.out) | ((with_reducible refine gate_callee (f := 47) rfl ?_); refine gL_ (some 19) Try.func47 #[.agg #[.string ((rd_T52 l0 x14_1).f0), .int .i64 ((rd_T52 l0 x14_1).f1), .int .i64 ((rd_T52 l0 x14_1).f2), .int .i64 ((rd_T52 l0 x14_1).f3), .int .i64 ((rd_T52 l0 x14_1).f4), .int .i64 ((rd_T52 l0 x14_1).f5), .int .i64 ((rd_T52 l0 x14_1).f6), .int .i64 ((rd_T52 l0 x14_1).f7), .int .i64 ((rd_T52 l0 x14_1).f8), .int .i64 ((rd_T52 l0 x14_1).f9), .int .i64 ((rd_T52 l0 x14_1).f10), .int .i64 ((rd_T52 l0 x14_1).f11), .int .i64 ((rd_T52 l0 x14_1).f12), .bool ((rd_T52 l0 x14_1).f13)]] ?_ rfl; (with_reducible refine (fleet_sound.calls k1 ((rd_T52 l0 x14_1).f0) ((rd_T52 l0 x14_1).f1) ((rd_T52 l0 x14_1).f2) ((rd_T52 l0 x14_1).f3) ((rd_T52 l0 x14_1).f4) ((rd_T52 l0 x14_1).f5) ((rd_T52 l0 x14_1).f6) ((rd_T52 l0 x14_1).f7) ((rd_T52 l0 x14_1).f8) ((rd_T52 l0 x14_1).f9) ((rd_T52 l0 x14_1).f10) ((rd_T52 l0 x14_1).f11) ((rd_T52 l0 x14_1).f12) ((rd_T52 l0 x14_1).f13) true _ A6.out).mono ?_); rintro e w10 ⟨rfl, hb⟩; refine ⟨_, rfl, ?_⟩; replace BK157 := Aside0.mk (blk_below (g := gb157) (o := .cells #[.string ((rd_T52 l0 x14_1).f0), .int .i64 ((rd_T52 l0 x14_1).f1), .int .i64 ((rd_T52 l0 x14_1).f2), .int .i64 ((rd_T52 l0 x14_1).f3), .int .i64 ((rd_T52 l0 x14_1).f4), .int .i64 ((rd_T52 l0 x14_1).f5), .int .i64 ((rd_T52 l0 x14_1).f6), .int .i64 ((rd_T52 l0 x14_1).f7), .int .i64 ((rd_T52 l0 x14_1).f8), .int .i64 ((rd_T52 l0 x14_1).f9), .int .i64 ((rd_T52 l0 x14_1).f10), .int .i64 ((rd_T52 l0 x14_1).f11), .int .i64 ((rd_T52 l0 x14_1).f12), .bool ((rd_T52 l0 x14_1).f13)] 52 (0, 0)) (dP14_ BK157) hb); replace HB := Aside0.mk (below_step (dL1_ HB GE157) hb)))
        go_roundg k1
        case measure => have := HK1.out; omega
        case rel => exact ⟨(wrap64 (x14_1 + 1)), tS_, H', ⟨by have := HK1.out; omega⟩, ⟨dL1_ HB GE157⟩⟩
       ·replace c7 := Bool.eq_false_iff.mpr c7; subst c7; rw [if_neg (show ¬ (false = true) by decide)] at H; obtain rfl := Option.some.inj H; have p156 : 0 ≤ (x14_1 : Int) := of_decide_eq_true tW_; have q156 : x14_1 < (l0.length : Int) := of_decide_eq_true tW_; obtain ⟨ad156, e156, hx156_0, hx156_1, hx156_2, hx156_3, hx156_4, hx156_5, hx156_6, hx156_7, hx156_8, hx156_9, hx156_10, hx156_11, hx156_12, hx156_13⟩ := at_T52 HR0.out x14_1 p156 q156; cases e156; replace hx156_0 := bc_ HB hx156_0; replace hx156_1 := bc_ HB hx156_1; replace hx156_2 := bc_ HB hx156_2; replace hx156_3 := bc_ HB hx156_3; replace hx156_4 := bc_ HB hx156_4; replace hx156_5 := bc_ HB hx156_5; replace hx156_6 := bc_ HB hx156_6; replace hx156_7 := bc_ HB hx156_7; replace hx156_8 := bc_ HB hx156_8; replace hx156_9 := bc_ HB hx156_9; replace hx156_10 := bc_ HB hx156_10; replace hx156_11 := bc_ HB hx156_11; replace hx156_12 := bc_ HB hx156_12; replace hx156_13 := bc_ HB hx156_13; replace p156 := eq_true p156; replace q156 := eq_true q156
        go_wp2_with (first | ((with_reducible refine gate_dst (N := 4) rfl ?_); refine bx_ (N := 4) (cs := #[.string (⟨#[]⟩ : ByteArray), .int .i64 0, .int .i64 0, .int .i64 0, .int .i64 0, .int .i64 0, .int .i64 0, .int .i64 0, .int .i64 0, .int .i64 0, .int .i64 0, .int .i64 0, .int .i64 0, .bool false]) (t := 52) ?_; intro gb157 hg w11 hbox hb; have BK157 := Aside0.mk (hbox); have GW157 := Aside0.mk ((dS_ hg (dL_ HB) : w.heap.size ≤ gb157)); have GE157 := GW157; replace HB := Aside0.mk (below_step (dL_ HB) hb); clear hb hbox hg; obtain ⟨z12a, z12b, z12c, z12d, z12e, z12f, z12g, z12h, z12i, z12j, z12k, z12l, z12m, z12n, y12a, y12b, y12c, y12d, y12e, y12f, y12g, y12h, y12i, y12j, y12k, y12l, y12m, y12n⟩ := cs14_ BK157.out) | ((with_reducible refine gate_callee (f := 47) rfl ?_); refine gL_ (some 19) Try.func47 #[.agg #[.string ((rd_T52 l0 x14_1).f0), .int .i64 ((rd_T52 l0 x14_1).f1), .int .i64 ((rd_T52 l0 x14_1).f2), .int .i64 ((rd_T52 l0 x14_1).f3), .int .i64 ((rd_T52 l0 x14_1).f4), .int .i64 ((rd_T52 l0 x14_1).f5), .int .i64 ((rd_T52 l0 x14_1).f6), .int .i64 ((rd_T52 l0 x14_1).f7), .int .i64 ((rd_T52 l0 x14_1).f8), .int .i64 ((rd_T52 l0 x14_1).f9), .int .i64 ((rd_T52 l0 x14_1).f10), .int .i64 ((rd_T52 l0 x14_1).f11), .int .i64 ((rd_T52 l0 x14_1).f12), .bool ((rd_T52 l0 x14_1).f13)]] ?_ rfl; (with_reducible refine (fleet_sound.calls k1 ((rd_T52 l0 x14_1).f0) ((rd_T52 l0 x14_1).f1) ((rd_T52 l0 x14_1).f2) ((rd_T52 l0 x14_1).f3) ((rd_T52 l0 x14_1).f4) ((rd_T52 l0 x14_1).f5) ((rd_T52 l0 x14_1).f6) ((rd_T52 l0 x14_1).f7) ((rd_T52 l0 x14_1).f8) ((rd_T52 l0 x14_1).f9) ((rd_T52 l0 x14_1).f10) ((rd_T52 l0 x14_1).f11) ((rd_T52 l0 x14_1).f12) ((rd_T52 l0 x14_1).f13) false _ A6.out).mono ?_); rintro e w13 ⟨rfl, hb⟩; refine ⟨_, rfl, ?_⟩; replace BK157 := Aside0.mk (blk_below (g := gb157) (o := .cells #[.string ((rd_T52 l0 x14_1).f0), .int .i64 ((rd_T52 l0 x14_1).f1), .int .i64 ((rd_T52 l0 x14_1).f2), .int .i64 ((rd_T52 l0 x14_1).f3), .int .i64 ((rd_T52 l0 x14_1).f4), .int .i64 ((rd_T52 l0 x14_1).f5), .int .i64 ((rd_T52 l0 x14_1).f6), .int .i64 ((rd_T52 l0 x14_1).f7), .int .i64 ((rd_T52 l0 x14_1).f8), .int .i64 ((rd_T52 l0 x14_1).f9), .int .i64 ((rd_T52 l0 x14_1).f10), .int .i64 ((rd_T52 l0 x14_1).f11), .int .i64 ((rd_T52 l0 x14_1).f12), .bool ((rd_T52 l0 x14_1).f13)] 52 (0, 0)) (dP14_ BK157) hb); replace HB := Aside0.mk (below_step (dL1_ HB GE157) hb)))
        go_ret
        exact ⟨tE_, dL1_ HB GE157⟩
      ·rw [if_neg c5] at H; exact absurd H (by simp)
     ·rw [if_neg c4] at H; exact absurd H (by simp)
    ·rw [if_neg c3] at H; have c3b0 : decide (x14_1 < (l0.length : Int)) = false := decide_eq_false c3; clear c3; have H' := Aside0.mk H; clear H; go_wp2
     go_loopg [24] k1 (fun kq v24 w' => ∃ (x24_2 : Int), v24 = .int .i64 x24_2 ∧ Aside0 (fleet_ValidateModels.l1 kq l0 l0 (l0.length : Int) x24_2 = some r) ∧ Aside0 (kq ≤ k1) ∧ Aside0 (Below w.heap.size w w'))
     case atStart => exact ⟨(0), tS_, H', ⟨Nat.le_refl _⟩, ⟨dL_ HB⟩⟩
     case round =>
      clear H'; (try clear c2); (try clear c2b0); (try clear c2b1); (try clear c3); (try clear c3b0); (try clear c4); (try clear c5); obtain ⟨x24_2, rfl, HA, HK2, HB⟩ := hrel
      cases gk with
      | zero => exact absurd HA.out (by simp [fleet_ValidateModels.l1])
      | succ k2 =>
       have H := HA.out; clear HA; simp only [fleet_ValidateModels.l1] at H
       by_cases c14 : x24_2 < (l0.length : Int)
       ·rw [if_pos c14] at H; have c14b0 : decide (x24_2 < (l0.length : Int)) = true := decide_eq_true c14; clear c14
        by_cases c15 : 0 ≤ x24_2
        ·rw [if_pos c15] at H; have c15b0 : decide (0 ≤ x24_2) = true := decide_eq_true c15; clear c15
         by_cases c16 : x24_2 < (l0.length : Int)
         ·rw [if_pos c16] at H; have c16b0 : decide (x24_2 < (l0.length : Int)) = true := decide_eq_true c16; clear c16; have c17b0 := eq_true (of_decide_eq_true tW_ : 0 ≤ x24_2)
          by_cases c18 : x24_2 ≤ (l0.length : Int)
          ·rw [if_pos c18] at H; have c18b0 := eq_true c18; have c18b1 : decide (x24_2 ≤ (l0.length : Int)) = true := decide_eq_true c18; clear c18; obtain ⟨y161, hy161⟩ : ∃ y_ : List (S52), y_ = (l0.take (x24_2 : Int).toNat) := ⟨_, rfl⟩; replace H : (fleet_ValidateModels.l2 k2 l0 l0 (l0.length : Int) x24_2 y161 (y161.length : Int) 0 ((rd_T52 l0 x24_2).f0) ((rd_T52 l0 x24_2).f1) ((rd_T52 l0 x24_2).f2) ((rd_T52 l0 x24_2).f3) ((rd_T52 l0 x24_2).f4) ((rd_T52 l0 x24_2).f5) ((rd_T52 l0 x24_2).f6) ((rd_T52 l0 x24_2).f7) ((rd_T52 l0 x24_2).f8) ((rd_T52 l0 x24_2).f9) ((rd_T52 l0 x24_2).f10) ((rd_T52 l0 x24_2).f11) ((rd_T52 l0 x24_2).f12) ((rd_T52 l0 x24_2).f13)) = some r := by first | (rw [hy161]; with_reducible exact H) | (have H2_ := (Option.bind_some _ _).symm.trans H; rw [hy161]; with_reducible exact H2_) | (have H2_ := (Option.bind_some _ _).symm.trans H; with_reducible exact H2_) | with_reducible exact H | (rw [hy161]; exact H) | exact H
           have Ny161 := Aside0.mk hy161; clear hy161; have H' := Aside0.mk H; clear H; have p159 : 0 ≤ (x24_2 : Int) := of_decide_eq_true tW_; have q159 : x24_2 < (l0.length : Int) := of_decide_eq_true tW_; obtain ⟨ad159, e159, hx159_0, hx159_1, hx159_2, hx159_3, hx159_4, hx159_5, hx159_6, hx159_7, hx159_8, hx159_9, hx159_10, hx159_11, hx159_12, hx159_13⟩ := at_T52 HR0.out x24_2 p159 q159; cases e159; replace hx159_0 := bc_ HB hx159_0; replace hx159_1 := bc_ HB hx159_1; replace hx159_2 := bc_ HB hx159_2; replace hx159_3 := bc_ HB hx159_3; replace hx159_4 := bc_ HB hx159_4; replace hx159_5 := bc_ HB hx159_5; replace hx159_6 := bc_ HB hx159_6; replace hx159_7 := bc_ HB hx159_7; replace hx159_8 := bc_ HB hx159_8; replace hx159_9 := bc_ HB hx159_9; replace hx159_10 := bc_ HB hx159_10; replace hx159_11 := bc_ HB hx159_11; replace hx159_12 := bc_ HB hx159_12; replace hx159_13 := bc_ HB hx159_13; replace p159 := eq_true p159; replace q159 := eq_true q159
           go_wp2_with (first | ((with_reducible refine gate_dst (N := 6) rfl ?_); refine bx_ (N := 6) (cs := #[.string (⟨#[]⟩ : ByteArray), .int .i64 0, .int .i64 0, .int .i64 0, .int .i64 0, .int .i64 0, .int .i64 0, .int .i64 0, .int .i64 0, .int .i64 0, .int .i64 0, .int .i64 0, .int .i64 0, .bool false]) (t := 52) ?_; intro gb160 hg w19 hbox hb; have BK160 := Aside0.mk (hbox); have GW160 := Aside0.mk ((dS_ hg (dL_ HB) : w.heap.size ≤ gb160)); have GE160 := GW160; replace HB := Aside0.mk (below_step (dL_ HB) hb); clear hb hbox hg; obtain ⟨z20a, z20b, z20c, z20d, z20e, z20f, z20g, z20h, z20i, z20j, z20k, z20l, z20m, z20n, y20a, y20b, y20c, y20d, y20e, y20f, y20g, y20h, y20i, y20j, y20k, y20l, y20m, y20n⟩ := cs14_ BK160.out) | ((with_reducible refine gate_store (t := 52) (p := 6) rfl ?_); refine store_event (t := 52) (p := 6) (v := ?vo_w21) (w1 := ((((((((((((((w19.setCell ⟨gb160, 0, none⟩ (.string ((rd_T52 l0 x24_2).f0))).setCell ⟨gb160, 1, none⟩ (.int .i64 ((rd_T52 l0 x24_2).f1))).setCell ⟨gb160, 2, none⟩ (.int .i64 ((rd_T52 l0 x24_2).f2))).setCell ⟨gb160, 3, none⟩ (.int .i64 ((rd_T52 l0 x24_2).f3))).setCell ⟨gb160, 4, none⟩ (.int .i64 ((rd_T52 l0 x24_2).f4))).setCell ⟨gb160, 5, none⟩ (.int .i64 ((rd_T52 l0 x24_2).f5))).setCell ⟨gb160, 6, none⟩ (.int .i64 ((rd_T52 l0 x24_2).f6))).setCell ⟨gb160, 7, none⟩ (.int .i64 ((rd_T52 l0 x24_2).f7))).setCell ⟨gb160, 8, none⟩ (.int .i64 ((rd_T52 l0 x24_2).f8))).setCell ⟨gb160, 9, none⟩ (.int .i64 ((rd_T52 l0 x24_2).f9))).setCell ⟨gb160, 10, none⟩ (.int .i64 ((rd_T52 l0 x24_2).f10))).setCell ⟨gb160, 11, none⟩ (.int .i64 ((rd_T52 l0 x24_2).f11))).setCell ⟨gb160, 12, none⟩ (.int .i64 ((rd_T52 l0 x24_2).f12))).setCell ⟨gb160, 13, none⟩ (.bool ((rd_T52 l0 x24_2).f13)))) ?hg ?ho ?hn ?hr ?_; (case ho => rfl); (case hg => rfl); (case hn => rfl); (case hr => first | (go_simp; done) | (go_simp; rfl)); intro w21 hw; have n0_ : Aside0 (w21.heap[gb160]? = some (.cells #[.string ((rd_T52 l0 x24_2).f0), .int .i64 ((rd_T52 l0 x24_2).f1), .int .i64 ((rd_T52 l0 x24_2).f2), .int .i64 ((rd_T52 l0 x24_2).f3), .int .i64 ((rd_T52 l0 x24_2).f4), .int .i64 ((rd_T52 l0 x24_2).f5), .int .i64 ((rd_T52 l0 x24_2).f6), .int .i64 ((rd_T52 l0 x24_2).f7), .int .i64 ((rd_T52 l0 x24_2).f8), .int .i64 ((rd_T52 l0 x24_2).f9), .int .i64 ((rd_T52 l0 x24_2).f10), .int .i64 ((rd_T52 l0 x24_2).f11), .int .i64 ((rd_T52 l0 x24_2).f12), .bool ((rd_T52 l0 x24_2).f13)] 52 (0, 0))) := ⟨(by rw [hw]; exact (dP14_ BK160))⟩; have n1_ : Aside0 (Below w.heap.size w w21) := ⟨(by rw [hw]; exact (dL1_ HB GE160))⟩; clear hw; clear BK160; clear HB; have BK160 := n0_; have HB := n1_; clear n0_ n1_; have q22 : (x24_2 : Int) ≤ ((l0.length : Int) : Int) := of_decide_eq_true tW_; obtain ⟨i022, hi022, _, hsz22, _⟩ := info_parts info52; have hroom22 : l0.length ≤ c0 := HC0.out; have hC22 : Kd.C k52 _ (some ad159) l0.length l0 := HR0.out; have hcut22 := cut_to (P := Try.prog) 22 52 .i64 Try.underlying22 hi022 (some ad159) l0.length c0 x24_2 (of_decide_eq_true tW_) q22 hroom22; have hr22 := Kd.C_take (m := (x24_2 : Int).toNat) hC22 (by omega); have hy22 : y161.length = (x24_2 : Int).toNat := (by rw [Ny161.out, List.length_take]; omega); rw [← Ny161.out] at hr22; rw [← hy22] at hcut22; have HR164 := Aside0.mk hr22; have HC164 := Aside0.mk (show y161.length ≤ c0 from by omega); clear hr22 hC22 hroom22 hi022 hsz22; have KY22 := Aside0.mk hy22; clear hy22; replace q22 := eq_true q22))
           go_loopg [33] k2 (fun kq v33 w' => ∃ (x33_3 : Int), v33 = .int .i64 x33_3 ∧ Aside0 (fleet_ValidateModels.l2 kq l0 l0 (l0.length : Int) x24_2 y161 (y161.length : Int) x33_3 ((rd_T52 l0 x24_2).f0) ((rd_T52 l0 x24_2).f1) ((rd_T52 l0 x24_2).f2) ((rd_T52 l0 x24_2).f3) ((rd_T52 l0 x24_2).f4) ((rd_T52 l0 x24_2).f5) ((rd_T52 l0 x24_2).f6) ((rd_T52 l0 x24_2).f7) ((rd_T52 l0 x24_2).f8) ((rd_T52 l0 x24_2).f9) ((rd_T52 l0 x24_2).f10) ((rd_T52 l0 x24_2).f11) ((rd_T52 l0 x24_2).f12) ((rd_T52 l0 x24_2).f13) = some r) ∧ Aside0 (kq ≤ k2) ∧ Aside0 (w'.heap[gb160]? = some (.cells #[.string ((rd_T52 l0 x24_2).f0), .int .i64 ((rd_T52 l0 x24_2).f1), .int .i64 ((rd_T52 l0 x24_2).f2), .int .i64 ((rd_T52 l0 x24_2).f3), .int .i64 ((rd_T52 l0 x24_2).f4), .int .i64 ((rd_T52 l0 x24_2).f5), .int .i64 ((rd_T52 l0 x24_2).f6), .int .i64 ((rd_T52 l0 x24_2).f7), .int .i64 ((rd_T52 l0 x24_2).f8), .int .i64 ((rd_T52 l0 x24_2).f9), .int .i64 ((rd_T52 l0 x24_2).f10), .int .i64 ((rd_T52 l0 x24_2).f11), .int .i64 ((rd_T52 l0 x24_2).f12), .bool ((rd_T52 l0 x24_2).f13)] 52 (0, 0))) ∧ Aside0 (Below w.heap.size w w'))
           case atStart => exact ⟨(0), tS_, H', ⟨Nat.le_refl _⟩, ⟨dB_ BK160⟩, ⟨dL1_ HB GE160⟩⟩
           case round =>
            clear H'; (try clear c2); (try clear c2b0); (try clear c2b1); (try clear c3); (try clear c3b0); (try clear c4); (try clear c5); (try clear c14); (try clear c14b0); (try clear c15); (try clear c15b0); (try clear c16); (try clear c16b0); (try clear c17b0); (try clear c18); (try clear c18b0); (try clear c18b1); (try clear q22); (try clear z20a z20b z20k z20l z20m z20n z20c z20d z20e z20f z20g z20h z20i z20j y20a y20b y20k y20l y20m y20n y20c y20d y20e y20f y20g y20h y20i y20j); (try clear hx159_0); (try clear hx159_1); (try clear hx159_10); (try clear hx159_11); (try clear hx159_12); (try clear hx159_13); (try clear hx159_2); (try clear hx159_3); (try clear hx159_4); (try clear hx159_5); (try clear hx159_6); (try clear hx159_7); (try clear hx159_8); (try clear hx159_9); (try clear p159); (try clear q159); (try clear q22); obtain ⟨x33_3, rfl, HA, HK3, BK160, HB⟩ := hrel
            cases gk with
            | zero => exact absurd HA.out (by simp [fleet_ValidateModels.l2])
            | succ k3 =>
             have H := HA.out; clear HA; simp only [fleet_ValidateModels.l2] at H
             by_cases c23 : x33_3 < (y161.length : Int)
             ·rw [if_pos c23] at H; have c23b0 : decide (x33_3 < (y161.length : Int)) = true := decide_eq_true c23; clear c23
              by_cases c24 : 0 ≤ x33_3
              ·rw [if_pos c24] at H; have c24b0 : decide (0 ≤ x33_3) = true := decide_eq_true c24; clear c24
               by_cases c25 : x33_3 < (y161.length : Int)
               ·rw [if_pos c25] at H; have c25b0 : decide (x33_3 < (y161.length : Int)) = true := decide_eq_true c25; clear c25
                by_cases c26 : ((rd_T52 y161 x33_3).f0).toList = ((rd_T52 l0 x24_2).f0).toList
                ·rw [if_pos c26] at H; have c26b0 : (((rd_T52 y161 x33_3).f0).toList == ((rd_T52 l0 x24_2).f0).toList) = true := beq_iff_eq.mpr c26; have c26b1 : (((rd_T52 y161 x33_3).f0).toList != ((rd_T52 l0 x24_2).f0).toList) = false := bne_eq_false_iff_eq.mpr c26; clear c26; obtain rfl := Option.some.inj H; have p165 : 0 ≤ (x33_3 : Int) := of_decide_eq_true tW_; have q165 : x33_3 < (y161.length : Int) := of_decide_eq_true tW_; obtain ⟨ad165, e165, hx165_0, hx165_1, hx165_2, hx165_3, hx165_4, hx165_5, hx165_6, hx165_7, hx165_8, hx165_9, hx165_10, hx165_11, hx165_12, hx165_13⟩ := at_T52 HR164.out x33_3 p165 q165; obtain rfl : ad159 = ad165 := (by injection e165); replace hx165_0 := bc_ HB hx165_0; replace hx165_1 := bc_ HB hx165_1; replace hx165_2 := bc_ HB hx165_2; replace hx165_3 := bc_ HB hx165_3; replace hx165_4 := bc_ HB hx165_4; replace hx165_5 := bc_ HB hx165_5; replace hx165_6 := bc_ HB hx165_6; replace hx165_7 := bc_ HB hx165_7; replace hx165_8 := bc_ HB hx165_8; replace hx165_9 := bc_ HB hx165_9; replace hx165_10 := bc_ HB hx165_10; replace hx165_11 := bc_ HB hx165_11; replace hx165_12 := bc_ HB hx165_12; replace hx165_13 := bc_ HB hx165_13; replace p165 := eq_true p165; replace q165 := eq_true q165
                 go_wp2_with (first | ((with_reducible refine gate_dst (N := 8) rfl ?_); refine bx_ (N := 8) (cs := #[.string (⟨#[]⟩ : ByteArray), .int .i64 0, .int .i64 0, .int .i64 0, .int .i64 0, .int .i64 0, .int .i64 0, .int .i64 0, .int .i64 0, .int .i64 0, .int .i64 0, .int .i64 0, .int .i64 0, .bool false]) (t := 52) ?_; intro gb166 hg w27 hbox hb; have BK166 := Aside0.mk (hbox); have GW166 := Aside0.mk ((dS_ hg (dL1_ HB GE160) : w.heap.size ≤ gb166)); have GE166 := GW166; replace HB := Aside0.mk (below_step (dL1_ HB GE160) hb); have NB160_166 := nb_ hg BK160; have NB166_160 := nc_ hg BK160; replace BK160 := bk_ BK160 hb; clear hb hbox hg; have hnb28 := NB166_160.out; have hnc28 := NB160_166.out; obtain ⟨z29a, z29b, z29c, z29d, z29e, z29f, z29g, z29h, z29i, z29j, z29k, z29l, z29m, z29n, y29a, y29b, y29c, y29d, y29e, y29f, y29g, y29h, y29i, y29j, y29k, y29l, y29m, y29n⟩ := cs14_ BK166.out; obtain ⟨z30a, z30b, z30c, z30d, z30e, z30f, z30g, z30h, z30i, z30j, z30k, z30l, z30m, z30n, y30a, y30b, y30c, y30d, y30e, y30f, y30g, y30h, y30i, y30j, y30k, y30l, y30m, y30n⟩ := cs14_ BK160.out))
                 go_ret
                 exact ⟨tE_, dL2_ HB GE160 GE166⟩
                ·rw [if_neg c26] at H; have c26b0 : (((rd_T52 y161 x33_3).f0).toList == ((rd_T52 l0 x24_2).f0).toList) = false := beq_eq_false_iff_ne.mpr c26; have c26b1 : (((rd_T52 y161 x33_3).f0).toList != ((rd_T52 l0 x24_2).f0).toList) = true := bne_iff_ne.mpr c26; have H' := Aside0.mk H; clear H; have p165 : 0 ≤ (x33_3 : Int) := of_decide_eq_true tW_; have q165 : x33_3 < (y161.length : Int) := of_decide_eq_true tW_; obtain ⟨ad165, e165, hx165_0, hx165_1, hx165_2, hx165_3, hx165_4, hx165_5, hx165_6, hx165_7, hx165_8, hx165_9, hx165_10, hx165_11, hx165_12, hx165_13⟩ := at_T52 HR164.out x33_3 p165 q165; obtain rfl : ad159 = ad165 := (by injection e165); replace hx165_0 := bc_ HB hx165_0; replace hx165_1 := bc_ HB hx165_1; replace hx165_2 := bc_ HB hx165_2; replace hx165_3 := bc_ HB hx165_3; replace hx165_4 := bc_ HB hx165_4; replace hx165_5 := bc_ HB hx165_5; replace hx165_6 := bc_ HB hx165_6; replace hx165_7 := bc_ HB hx165_7; replace hx165_8 := bc_ HB hx165_8; replace hx165_9 := bc_ HB hx165_9; replace hx165_10 := bc_ HB hx165_10; replace hx165_11 := bc_ HB hx165_11; replace hx165_12 := bc_ HB hx165_12; replace hx165_13 := bc_ HB hx165_13; replace p165 := eq_true p165; replace q165 := eq_true q165
                 go_wp2_with (first | ((with_reducible refine gate_dst (N := 8) rfl ?_); refine bx_ (N := 8) (cs := #[.string (⟨#[]⟩ : ByteArray), .int .i64 0, .int .i64 0, .int .i64 0, .int .i64 0, .int .i64 0, .int .i64 0, .int .i64 0, .int .i64 0, .int .i64 0, .int .i64 0, .int .i64 0, .int .i64 0, .bool false]) (t := 52) ?_; intro gb166 hg w31 hbox hb; have BK166 := Aside0.mk (hbox); have GW166 := Aside0.mk ((dS_ hg (dL1_ HB GE160) : w.heap.size ≤ gb166)); have GE166 := GW166; replace HB := Aside0.mk (below_step (dL1_ HB GE160) hb); have NB160_166 := nb_ hg BK160; have NB166_160 := nc_ hg BK160; replace BK160 := bk_ BK160 hb; clear hb hbox hg; have hnb32 := NB166_160.out; have hnc32 := NB160_166.out; obtain ⟨z33a, z33b, z33c, z33d, z33e, z33f, z33g, z33h, z33i, z33j, z33k, z33l, z33m, z33n, y33a, y33b, y33c, y33d, y33e, y33f, y33g, y33h, y33i, y33j, y33k, y33l, y33m, y33n⟩ := cs14_ BK166.out; obtain ⟨z34a, z34b, z34c, z34d, z34e, z34f, z34g, z34h, z34i, z34j, z34k, z34l, z34m, z34n, y34a, y34b, y34c, y34d, y34e, y34f, y34g, y34h, y34i, y34j, y34k, y34l, y34m, y34n⟩ := cs14_ BK160.out))
                 go_roundg k3
                 case measure => have := HK1.out; have := HK2.out; have := HK3.out; omega
                 case rel => exact ⟨(wrap64 (x33_3 + 1)), tS_, H', ⟨by have := HK1.out; have := HK2.out; have := HK3.out; omega⟩, ⟨dF14_ BK160 NB160_166⟩, ⟨dL2_ HB GE160 GE166⟩⟩
               ·rw [if_neg c25] at H; exact absurd H (by simp)
              ·rw [if_neg c24] at H; exact absurd H (by simp)
             ·rw [if_neg c23] at H; have c23b0 : decide (x33_3 < (y161.length : Int)) = false := decide_eq_false c23; clear c23; have H' := Aside0.mk H; clear H; go_wp2
              go_roundg k3
              case measure => have := HK1.out; have := HK2.out; have := HK3.out; omega
              case rel => exact ⟨(wrap64 (x24_2 + 1)), tS_, H', ⟨by have := HK1.out; have := HK2.out; have := HK3.out; omega⟩, ⟨dL1_ HB GE160⟩⟩
          ·rw [if_neg c18] at H; exact absurd H (by simp)
         ·rw [if_neg c16] at H; exact absurd H (by simp)
        ·rw [if_neg c15] at H; exact absurd H (by simp)
       ·rw [if_neg c14] at H; have c14b0 : decide (x24_2 < (l0.length : Int)) = false := decide_eq_false c14; clear c14; obtain rfl := Option.some.inj H; go_wp2
        go_ret
        exact ⟨tE_, dL_ HB⟩

end Go.Proofs.Ytgnahbjpockdmab.Q
namespace Go.Proofs.Ytgnahbjpockdmab.Q
open Go.RowKit Go.Proofs.YtgnahbjpockdmabPrs Go.Proofs.YtgnahbjpockdmabOwn Go.Proofs.YtgnahbjpockdmabW.PrintWords Go.Proofs.YtgnahbjpockdmabW.PrintLast Go.Proofs.YtgnahbjpockdmabW.PrintMore
attribute [local go_sem] max2_int min2_int max_two min_two max_three min_three max_four min_four   -- for this text's walks alone
set_option linter.unusedVariables false
set_option linter.unusedSimpArgs false

/-! ### fleet_joined: function 28 -/
mutual
def fleet_joined.j0 : Nat → List (S52) → List Int → Bool → Option (Int)
  | 0, _, _, _ => none
  | k + 1, x0, x1, x20 => if x20 = true then (some 1) else (fleet_joined.l0 k x0 x1 x1 (x1.length : Int) 0)
def fleet_joined.l0 : Nat → List (S52) → List Int → List Int → Int → Int → Option (Int)
  | 0, _, _, _, _, _ => none
  | k + 1, x0, x1, x21, x22, x23 => if x23 < x22 then (if 0 ≤ x23 then (if x23 < (x21.length : Int) then (if (rd x21 x23) < 0 then (fleet_joined.j2 k x0 x1 x21 x22 x23 true) else (fleet_joined.j2 k x0 x1 x21 x22 x23 (decide ((rd x21 x23) ≥ (x0.length : Int))))) else (none)) else (none)) else ((fleet_fits.f k x0 x1).bind fun t168 => (some t168))
def fleet_joined.j2 : Nat → List (S52) → List Int → List Int → Int → Int → Bool → Option (Int)
  | 0, _, _, _, _, _, _ => none
  | k + 1, x0, x1, x21, x22, x23, x34 => if x34 = true then (some 2) else (fleet_joined.l0 k x0 x1 x21 x22 (wrap64 (x23 + 1)))
end
def fleet_joined.f (k : Nat) (l0 : List (S52)) (l1 : List Int) : Option (Int) := (fleet_ValidateModels.f k l0).bind fun t167 => (if t167 = 0 then (if (l1.length : Int) = 0 then (fleet_joined.j0 k l0 l1 true) else (fleet_joined.j0 k l0 l1 (decide ((l1.length : Int) > 10)))) else (some t167))
theorem fleet_joined.mono_l : ∀ k, (∀ y0 y1 y2, LeO (fleet_joined.j0 k y0 y1 y2) (fleet_joined.j0 (k + 1) y0 y1 y2)) ∧ (∀ y0 y1 y2 y3 y4, LeO (fleet_joined.l0 k y0 y1 y2 y3 y4) (fleet_joined.l0 (k + 1) y0 y1 y2 y3 y4)) ∧ (∀ y0 y1 y2 y3 y4 y5, LeO (fleet_joined.j2 k y0 y1 y2 y3 y4 y5) (fleet_joined.j2 (k + 1) y0 y1 y2 y3 y4 y5))
  | 0 => ⟨fun _ _ _ r h => by simp [fleet_joined.j0] at h, fun _ _ _ _ _ r h => by simp [fleet_joined.l0] at h, fun _ _ _ _ _ _ r h => by simp [fleet_joined.j2] at h⟩
  | k + 1 => by
    obtain ⟨ih0, ih1, ih2⟩ := fleet_joined.mono_l k; refine ⟨?_, ?_, ?_⟩
    · intro y0 y1 y2
      unfold fleet_joined.j0
      repeat' first
      | (with_reducible first | apply ih0 | apply ih1 | apply ih2 | apply fleet_ValidateModels.mono | apply fleet_fits.mono | exact LeO.refl _ | exact LeO.none _ | refine LeO.ite ?_ ?_ | refine LeO.bind ?_ (fun _ => ?_))
    · intro y0 y1 y2 y3 y4
      unfold fleet_joined.l0
      repeat' first
      | (with_reducible first | apply ih0 | apply ih1 | apply ih2 | apply fleet_ValidateModels.mono | apply fleet_fits.mono | exact LeO.refl _ | exact LeO.none _ | refine LeO.ite ?_ ?_ | refine LeO.bind ?_ (fun _ => ?_))
    · intro y0 y1 y2 y3 y4 y5
      unfold fleet_joined.j2
      repeat' first
      | (with_reducible first | apply ih0 | apply ih1 | apply ih2 | apply fleet_ValidateModels.mono | apply fleet_fits.mono | exact LeO.refl _ | exact LeO.none _ | refine LeO.ite ?_ ?_ | refine LeO.bind ?_ (fun _ => ?_))
theorem fleet_joined.mono : ∀ a0 a1 k, LeO (fleet_joined.f k a0 a1) (fleet_joined.f (k + 1) a0 a1) := by
  intro a0 a1 k; obtain ⟨ih0, ih1, ih2⟩ := fleet_joined.mono_l k
  unfold fleet_joined.f
  repeat' first
      | (with_reducible first | apply ih0 | apply ih1 | apply ih2 | apply fleet_ValidateModels.mono | apply fleet_fits.mono | exact LeO.refl _ | exact LeO.none _ | refine LeO.ite ?_ ?_ | refine LeO.bind ?_ (fun _ => ?_))
set_option maxHeartbeats 8000000 in
set_option maxRecDepth 100000 in
theorem fleet_joined.calls (k : Nat) (A0 : Option Addr) (c0 : Nat) (l0 : List (S52)) (A1 : Option Addr) (c1 : Nat) (l1 : List Int) (r : Int) (w : World) (hr0 : Kd.C k52 w A0 l0.length l0) (hc0 : l0.length ≤ c0) (hr1 : Kd.C (Kd.int .i64) w A1 l1.length l1) (hc1 : l1.length ≤ c1) (h : fleet_joined.f k l0 l1 = some r) :
    Calls Try.prog 28 #[.slice A0 l0.length c0, .slice A1 l1.length c1] w fun e w' => e = .returned (.int .i64 r) ∧ Below w.heap.size w w' := by
 have HR0 := Aside0.mk hr0; have HC0 := Aside0.mk hc0; clear hr0 hc0; have HR1 := Aside0.mk hr1; have HC1 := Aside0.mk hc1; clear hr1 hc1; have HB := Aside0.mk (Below.refl w.heap.size w); have H : ((fleet_ValidateModels.f k l0).bind fun t167 => (if t167 = 0 then (if (l1.length : Int) = 0 then (fleet_joined.j0 k l0 l1 true) else (fleet_joined.j0 k l0 l1 (decide ((l1.length : Int) > 10)))) else (some t167))) = some r := h; clear h; replace H := Option.bind_eq_some_iff.mp H; obtain ⟨t167, A30, H⟩ := H; have A3 := Aside0.mk A30; clear A30
 by_cases c4 : t167 = 0
 ·rw [if_pos c4] at H; have c4b0 : (t167 == 0) = true := beq_iff_eq.mpr c4; have c4b1 : (t167 != 0) = false := bne_eq_false_iff_eq.mpr c4; clear c4; have HC5 := Aside0.mk H; clear H
  go_enter Try.func28, Try.ntmps28
  go_upto_region 4 with (first | ((with_reducible refine gate_callee (f := 37) rfl ?_); refine gL_ (some 9) Try.func37 #[.slice A0 l0.length c0] ?_ rfl; (with_reducible refine (fleet_ValidateModels.calls k _ _ l0 t167 _ ?side1 ?side2 A3.out).mono ?_); (case side1 => exact rC_ HR0.out); (case side2 => exact HC0.out); rintro e w6 ⟨rfl, hb⟩; refine ⟨_, rfl, ?_⟩; replace HB := Aside0.mk (below_step (dL_ HB) hb)))
  (try simp only [Act.put, List.setIfInBounds_toArray, List.set_cons_zero, List.set_cons_succ])
  go_cut [20] (fun v20 wc => ∃ (kq : Nat) (x20_4 : Bool), v20 = .bool x20_4 ∧ Aside0 (fleet_joined.j0 kq l0 l1 x20_4 = some r) ∧ Aside0 (kq ≤ k) ∧ Aside0 (Below w.heap.size w wc))
  case first =>
   have H := HC5.out; clear HC5
   by_cases c7 : (l1.length : Int) = 0
   ·rw [if_pos c7] at H; have c7b0 : ((l1.length : Int) == 0) = true := beq_iff_eq.mpr c7; have c7b1 : ((l1.length : Int) != 0) = false := bne_eq_false_iff_eq.mpr c7; clear c7
    (first | rw [c7b0] | (simp only [i64_w, i32_w]; rw [c7b0]) | skip)
    have H' := Aside0.mk H; clear H; go_wp2
    go_meet
    case rel => exact ⟨_, (true), tS_, H', ⟨by first | omega | exact Nat.le_refl _⟩, ⟨dL_ HB⟩⟩
   ·rw [if_neg c7] at H; have c7b0 : ((l1.length : Int) == 0) = false := beq_eq_false_iff_ne.mpr c7; have c7b1 : ((l1.length : Int) != 0) = true := bne_iff_ne.mpr c7; have c7b2 : ¬ (l1 = []) := fun h_ => c7 (by rw [h_]; rfl)
    (first | rw [c7b0] | (simp only [i64_w, i32_w]; rw [c7b0]) | skip)
    have H' := Aside0.mk H; clear H; go_wp2
    go_meet
    case rel => exact ⟨_, (decide ((l1.length : Int) > 10)), tS_, H', ⟨by first | omega | exact Nat.le_refl _⟩, ⟨dL_ HB⟩⟩
  case rest =>
   clear HC5; (try clear c1); (try clear c4); (try clear c4b0); (try clear c4b1); (try clear c7); obtain ⟨kq, x20_4, rfl, HA, HJ4, HB⟩ := hcut
   cases kq with
   | zero => exact absurd HA.out (by simp [fleet_joined.j0])
   | succ kj4 =>
    have H := HA.out; clear HA; simp only [fleet_joined.j0] at H
    by_cases c8 : x20_4 = true
    ·subst c8; rw [if_pos rfl] at H; obtain rfl := Option.some.inj H; go_wp2
     go_ret
     exact ⟨tE_, dL_ HB⟩
    ·replace c8 := Bool.eq_false_iff.mpr c8; subst c8; rw [if_neg (show ¬ (false = true) by decide)] at H; have H' := Aside0.mk H; clear H; go_wp2
     go_loopg [23] kj4 (fun kq v23 w' => ∃ (x23_2 : Int), v23 = .int .i64 x23_2 ∧ Aside0 (fleet_joined.l0 kq l0 l1 l1 (l1.length : Int) x23_2 = some r) ∧ Aside0 (kq ≤ kj4) ∧ Aside0 (Below w.heap.size w w'))
     case atStart => exact ⟨(0), tS_, H', ⟨Nat.le_refl _⟩, ⟨dL_ HB⟩⟩
     case round =>
      clear H'; (try clear c1); (try clear c4); (try clear c4b0); (try clear c4b1); (try clear c7); (try clear c8); obtain ⟨x23_2, rfl, HA, HK2, HB⟩ := hrel
      cases gk with
      | zero => exact absurd HA.out (by simp [fleet_joined.l0])
      | succ k2 =>
       have H := HA.out; clear HA; simp only [fleet_joined.l0] at H
       by_cases c9 : x23_2 < (l1.length : Int)
       ·rw [if_pos c9] at H; have c9b0 : decide (x23_2 < (l1.length : Int)) = true := decide_eq_true c9; clear c9
        by_cases c10 : 0 ≤ x23_2
        ·rw [if_pos c10] at H; have c10b0 : decide (0 ≤ x23_2) = true := decide_eq_true c10; clear c10
         by_cases c11 : x23_2 < (l1.length : Int)
         ·rw [if_pos c11] at H; have c11b0 : decide (x23_2 < (l1.length : Int)) = true := decide_eq_true c11; clear c11; have HC12 := Aside0.mk H; clear H; have p169 : 0 ≤ (x23_2 : Int) := of_decide_eq_true tW_; have q169 : x23_2 < (l1.length : Int) := of_decide_eq_true tW_; obtain ⟨ad169, e169, hx169_0⟩ := Kd.at_int HR1.out x23_2 p169 q169; cases e169; replace hx169_0 := bc_ HB hx169_0; replace p169 := eq_true p169; replace q169 := eq_true q169
          go_upto_region 9 with (fail)
          go_cut [34] (fun v34 wc => ∃ (kq : Nat) (x34_11 : Bool), v34 = .bool x34_11 ∧ Aside0 (fleet_joined.j2 kq l0 l1 l1 (l1.length : Int) x23_2 x34_11 = some r) ∧ Aside0 (kq ≤ k2) ∧ Aside0 (Below w.heap.size w wc))
          case first =>
           have H := HC12.out; clear HC12
           by_cases c13 : (rd l1 x23_2) < 0
           ·rw [if_pos c13] at H; have c13b0 : decide ((rd l1 x23_2) < 0) = true := decide_eq_true c13; clear c13
            (first | rw [c13b0] | (simp only [i64_w, i32_w]; rw [c13b0]) | skip)
            have H' := Aside0.mk H; clear H; go_wp2
            go_meet
            case rel => exact ⟨_, (true), tS_, H', ⟨by have := HJ4.out; have := HK2.out; first | omega | exact Nat.le_refl _⟩, ⟨dL_ HB⟩⟩
           ·rw [if_neg c13] at H; have c13b0 : decide ((rd l1 x23_2) < 0) = false := decide_eq_false c13; clear c13
            (first | rw [c13b0] | (simp only [i64_w, i32_w]; rw [c13b0]) | skip)
            have H' := Aside0.mk H; clear H; go_wp2
            go_meet
            case rel => exact ⟨_, (decide ((rd l1 x23_2) ≥ (l0.length : Int))), tS_, H', ⟨by have := HJ4.out; have := HK2.out; first | omega | exact Nat.le_refl _⟩, ⟨dL_ HB⟩⟩
          case rest =>
           clear HC12; (try clear c1); (try clear c4); (try clear c4b0); (try clear c4b1); (try clear c7); (try clear c8); (try clear c9); (try clear c9b0); (try clear c10); (try clear c10b0); (try clear c11); (try clear c11b0); (try clear c13); (try clear hx169_0); (try clear p169); (try clear q169); obtain ⟨kq, x34_11, rfl, HA, HJ11, HB⟩ := hcut
           cases kq with
           | zero => exact absurd HA.out (by simp [fleet_joined.j2])
           | succ kj11 =>
            have H := HA.out; clear HA; simp only [fleet_joined.j2] at H
            by_cases c14 : x34_11 = true
            ·subst c14; rw [if_pos rfl] at H; obtain rfl := Option.some.inj H; go_wp2
             go_ret
             exact ⟨tE_, dL_ HB⟩
            ·replace c14 := Bool.eq_false_iff.mpr c14; subst c14; rw [if_neg (show ¬ (false = true) by decide)] at H; have H' := Aside0.mk H; clear H; go_wp2
             go_roundg kj11
             case measure => have := HJ4.out; have := HK2.out; have := HJ11.out; omega
             case rel => exact ⟨(wrap64 (x23_2 + 1)), tS_, H', ⟨by have := HJ4.out; have := HK2.out; have := HJ11.out; omega⟩, ⟨dL_ HB⟩⟩
         ·rw [if_neg c11] at H; exact absurd H (by simp)
        ·rw [if_neg c10] at H; exact absurd H (by simp)
       ·rw [if_neg c9] at H; have c9b0 : decide (x23_2 < (l1.length : Int)) = false := decide_eq_false c9; clear c9; replace H := Option.bind_eq_some_iff.mp H; obtain ⟨t168, A150, H⟩ := H; have A15 := Aside0.mk A150; clear A150; obtain rfl := Option.some.inj H
        go_wp2_with (first | ((with_reducible refine gate_callee (f := 22) rfl ?_); refine gL_ (some 38) Try.func22 #[.slice A0 l0.length c0, .slice A1 l1.length c1] ?_ rfl; (with_reducible refine (fleet_fits.calls k2 _ _ l0 _ _ l1 t168 _ ?side1 ?side2 ?side3 ?side4 A15.out).mono ?_); (case side1 => exact dC_ HR0 HB); (case side2 => exact HC0.out); (case side3 => exact dC_ HR1 HB); (case side4 => exact HC1.out); rintro e w16 ⟨rfl, hb⟩; refine ⟨_, rfl, ?_⟩; replace HB := Aside0.mk (below_step (dL_ HB) hb)))
        go_ret
        exact ⟨tE_, dL_ HB⟩
 ·rw [if_neg c4] at H; have c4b0 : (t167 == 0) = false := beq_eq_false_iff_ne.mpr c4; have c4b1 : (t167 != 0) = true := bne_iff_ne.mpr c4; obtain rfl := Option.some.inj H
  go_enter Try.func28, Try.ntmps28
  go_wp2_with (first | ((with_reducible refine gate_callee (f := 37) rfl ?_); refine gL_ (some 9) Try.func37 #[.slice A0 l0.length c0] ?_ rfl; (with_reducible refine (fleet_ValidateModels.calls k _ _ l0 t167 _ ?side1 ?side2 A3.out).mono ?_); (case side1 => exact rC_ HR0.out); (case side2 => exact HC0.out); rintro e w17 ⟨rfl, hb⟩; refine ⟨_, rfl, ?_⟩; replace HB := Aside0.mk (below_step (dL_ HB) hb)))
  go_ret
  exact ⟨tE_, dL_ HB⟩

end Go.Proofs.Ytgnahbjpockdmab.Q
