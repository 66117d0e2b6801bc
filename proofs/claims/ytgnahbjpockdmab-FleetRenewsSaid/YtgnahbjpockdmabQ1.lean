-- PRINTED by print.py out of the translation. Not trusted: Lean checks it.
import Derived.Test.YtgnahbjpockdmabPrs
import Derived.Test.YtgnahbjpockdmabQ0
namespace Go.Proofs.Ytgnahbjpockdmab.Q
open Go.RowKit Go.Proofs.YtgnahbjpockdmabPrs Go.Proofs.YtgnahbjpockdmabOwn Go.Proofs.YtgnahbjpockdmabW.PrintWords Go.Proofs.YtgnahbjpockdmabW.PrintLast Go.Proofs.YtgnahbjpockdmabW.PrintMore
attribute [local go_sem] max2_int min2_int max_two min_two max_three min_three max_four min_four   -- for this text's walks alone
set_option linter.unusedVariables false
set_option linter.unusedSimpArgs false

theorem eqA49 (d : Nat) (w : World) (x0 y0 : Int) (x1 y1 : Int) (x2 y2 : Int) (x3 y3 : Int) (x4 y4 : Int) (x5 y5 : Int) :
    (Op.equalIn (d + 2) 49 (.agg #[.int .i64 x0, .int .i64 x1, .int .i64 x2, .int .i64 x3, .int .i64 x4, .int .i64 x5]) (.agg #[.int .i64 y0, .int .i64 y1, .int .i64 y2, .int .i64 y3, .int .i64 y4, .int .i64 y5])).run Try.prog w = .ok (x0 == y0 && (x1 == y1 && (x2 == y2 && (x3 == y3 && (x4 == y4 && (x5 == y5)))))) w := by
  refine eqA_of Try.underlying49 (by kernel_rfl) ?_; refine eqf_cons (by rfl) (by go_simp; rfl) (by go_simp; rfl) (by go_simp) ?_; refine eqf_cons (by rfl) (by go_simp; rfl) (by go_simp; rfl) (by go_simp) ?_; refine eqf_cons (by rfl) (by go_simp; rfl) (by go_simp; rfl) (by go_simp) ?_; refine eqf_cons (by rfl) (by go_simp; rfl) (by go_simp; rfl) (by go_simp) ?_; refine eqf_cons (by rfl) (by go_simp; rfl) (by go_simp; rfl) (by go_simp) ?_; exact eqf_last (by rfl) (by go_simp; rfl) (by go_simp; rfl) (by go_simp)
end Go.Proofs.Ytgnahbjpockdmab.Q
namespace Go.Proofs.Ytgnahbjpockdmab.Q
open Go.RowKit Go.Proofs.YtgnahbjpockdmabPrs Go.Proofs.YtgnahbjpockdmabOwn Go.Proofs.YtgnahbjpockdmabW.PrintWords Go.Proofs.YtgnahbjpockdmabW.PrintLast Go.Proofs.YtgnahbjpockdmabW.PrintMore
attribute [local go_sem] max2_int min2_int max_two min_two max_three min_three max_four min_four   -- for this text's walks alone
set_option linter.unusedVariables false
set_option linter.unusedSimpArgs false

/-! ### hinterlandlaw14_large: function 6 -/
def hinterlandlaw14_large.l0 : Nat → List (S52) → List (S52) → Int → Int → List Int → List Int → Int → Int → Int → Int → List (S49) → Option (Bool)
  | 0, _, _, _, _, _, _, _, _, _, _, _ => none
  | k + 1, x0, x7, x8, x9, x102000, x102001, x102002, x102003, x102004, x102005, x102006 => if x9 < x8 then (if 0 ≤ x9 then (if x9 < (x7.length : Int) then (if (((rd_T52 x7 x9).f0).size : Int) > 500 then (some true) else (hinterlandlaw14_large.l0 k x0 x7 x8 (wrap64 (x9 + 1)) x102000 x102001 x102002 x102003 x102004 x102005 x102006)) else (none)) else (none)) else (if (x0.length : Int) > 500 then (some true) else (if (x102000.length : Int) > 500 then (some true) else (if (x102001.length : Int) > 500 then (some true) else (some (decide ((x102006.length : Int) > 500))))))
def hinterlandlaw14_large.f (k : Nat) (l0 : List (S52)) (l1_0 : List Int) (l1_1 : List Int) (a1_2 : Int) (a1_3 : Int) (a1_4 : Int) (a1_5 : Int) (l1_6 : List (S49)) : Option (Bool) := hinterlandlaw14_large.l0 k l0 l0 (l0.length : Int) 0 l1_0 l1_1 a1_2 a1_3 a1_4 a1_5 l1_6
theorem hinterlandlaw14_large.mono_l : ∀ k, (∀ y0 y1 y2 y3 y4 y5 y6 y7 y8 y9 y10, LeO (hinterlandlaw14_large.l0 k y0 y1 y2 y3 y4 y5 y6 y7 y8 y9 y10) (hinterlandlaw14_large.l0 (k + 1) y0 y1 y2 y3 y4 y5 y6 y7 y8 y9 y10))
  | 0 => fun _ _ _ _ _ _ _ _ _ _ _ r h => by simp [hinterlandlaw14_large.l0] at h
  | k + 1 => by
    have ih0 := hinterlandlaw14_large.mono_l k
    · intro y0 y1 y2 y3 y4 y5 y6 y7 y8 y9 y10
      unfold hinterlandlaw14_large.l0
      repeat' first
      | (with_reducible first | apply ih0 | exact LeO.refl _ | exact LeO.none _ | refine LeO.ite ?_ ?_ | refine LeO.bind ?_ (fun _ => ?_))
theorem hinterlandlaw14_large.mono : ∀ a0 a1 a2 a3 a4 a5 a6 a7 k, LeO (hinterlandlaw14_large.f k a0 a1 a2 a3 a4 a5 a6 a7) (hinterlandlaw14_large.f (k + 1) a0 a1 a2 a3 a4 a5 a6 a7) := by
  intro a0 a1 a2 a3 a4 a5 a6 a7 k; have ih0 := hinterlandlaw14_large.mono_l k
  unfold hinterlandlaw14_large.f
  repeat' first
      | (with_reducible first | apply ih0 | exact LeO.refl _ | exact LeO.none _ | refine LeO.ite ?_ ?_ | refine LeO.bind ?_ (fun _ => ?_))
set_option maxHeartbeats 8000000 in
set_option maxRecDepth 100000 in
theorem hinterlandlaw14_large.calls (k : Nat) (A0 : Option Addr) (c0 : Nat) (l0 : List (S52)) (A1_0 : Option Addr) (c1_0 : Nat) (l1_0 : List Int) (A1_1 : Option Addr) (c1_1 : Nat) (l1_1 : List Int) (a1_2 : Int) (a1_3 : Int) (a1_4 : Int) (a1_5 : Int) (A1_6 : Option Addr) (c1_6 : Nat) (l1_6 : List (S49)) (r : Bool) (w : World) (hr0 : Kd.C k52 w A0 l0.length l0) (hc0 : l0.length ≤ c0) (hr1_0 : Kd.C (Kd.int .i64) w A1_0 l1_0.length l1_0) (hc1_0 : l1_0.length ≤ c1_0) (hr1_1 : Kd.C (Kd.int .i64) w A1_1 l1_1.length l1_1) (hc1_1 : l1_1.length ≤ c1_1) (hr1_6 : Kd.C k49 w A1_6 l1_6.length l1_6) (hc1_6 : l1_6.length ≤ c1_6) (h : hinterlandlaw14_large.f k l0 l1_0 l1_1 a1_2 a1_3 a1_4 a1_5 l1_6 = some r) :
    Calls Try.prog 6 #[.slice A0 l0.length c0, .agg #[.slice A1_0 l1_0.length c1_0, .slice A1_1 l1_1.length c1_1, .int .i64 a1_2, .int .i64 a1_3, .int .i64 a1_4, .int .i64 a1_5, .slice A1_6 l1_6.length c1_6]] w fun e w' => e = .returned (.bool r) ∧ Below w.heap.size w w' := by
 have hu26 := Try.underlying26; have hu52 := Try.underlying52; have HR0 := Aside0.mk hr0; have HC0 := Aside0.mk hc0; clear hr0 hc0; have HR1_0 := Aside0.mk hr1_0; have HC1_0 := Aside0.mk hc1_0; clear hr1_0 hc1_0; have HR1_1 := Aside0.mk hr1_1; have HC1_1 := Aside0.mk hc1_1; clear hr1_1 hc1_1; have HR1_6 := Aside0.mk hr1_6; have HC1_6 := Aside0.mk hc1_6; clear hr1_6 hc1_6; have HB := Aside0.mk (Below.refl w.heap.size w); have H : (hinterlandlaw14_large.l0 k l0 l0 (l0.length : Int) 0 l1_0 l1_1 a1_2 a1_3 a1_4 a1_5 l1_6) = some r := h; clear h; have H' := Aside0.mk H; clear H
 go_enter Try.func6, Try.ntmps6
 go_wp2_with (first | ((with_reducible refine gate_dst (N := 3) rfl ?_); (try (refine gate_guard (by rfl) ?_; dsimp only)); refine bx_ (N := 3) (cs := #[.slice A1_0 l1_0.length c1_0, .slice A1_1 l1_1.length c1_1, .int .i64 a1_2, .int .i64 a1_3, .int .i64 a1_4, .int .i64 a1_5, .slice A1_6 l1_6.length c1_6]) (t := 26) ?_; intro gb101 hg w3 hbox hb; have BK101 := Aside0.mk (hbox); have GW101 := Aside0.mk ((dS_ hg (dL_ HB) : w.heap.size ≤ gb101)); have GE101 := GW101; replace HB := Aside0.mk (below_step (dL_ HB) hb); clear hb hbox hg))
 go_loopg [9] k (fun kq v9 w' => ∃ (x9_1 : Int), v9 = .int .i64 x9_1 ∧ Aside0 (hinterlandlaw14_large.l0 kq l0 l0 (l0.length : Int) x9_1 l1_0 l1_1 a1_2 a1_3 a1_4 a1_5 l1_6 = some r) ∧ Aside0 (kq ≤ k) ∧ Aside0 (w'.heap[gb101]? = some (.cells #[(.slice A1_0 l1_0.length c1_0), (.slice A1_1 l1_1.length c1_1), .int .i64 a1_2, .int .i64 a1_3, .int .i64 a1_4, .int .i64 a1_5, (.slice A1_6 l1_6.length c1_6)] 26 (0, 0))) ∧ Aside0 (Below w.heap.size w w'))
 case atStart => exact ⟨(0), tS_, H', ⟨Nat.le_refl _⟩, ⟨dB_ BK101⟩, ⟨dL1_ HB GE101⟩⟩
 case round =>
  clear H'; obtain ⟨x9_1, rfl, HA, HK1, BK101, HB⟩ := hrel
  cases gk with
  | zero => exact absurd HA.out (by simp [hinterlandlaw14_large.l0])
  | succ k1 =>
   have H := HA.out; clear HA; simp only [hinterlandlaw14_large.l0] at H
   by_cases c4 : x9_1 < (l0.length : Int)
   ·rw [if_pos c4] at H; have c4b0 : decide (x9_1 < (l0.length : Int)) = true := decide_eq_true c4; clear c4
    by_cases c5 : 0 ≤ x9_1
    ·rw [if_pos c5] at H; have c5b0 : decide (0 ≤ x9_1) = true := decide_eq_true c5; clear c5
     by_cases c6 : x9_1 < (l0.length : Int)
     ·rw [if_pos c6] at H; have c6b0 : decide (x9_1 < (l0.length : Int)) = true := decide_eq_true c6; clear c6
      by_cases c7 : (((rd_T52 l0 x9_1).f0).size : Int) > 500
      ·rw [if_pos c7] at H; have c7b0 : decide (500 < (((rd_T52 l0 x9_1).f0).size : Int)) = true := decide_eq_true c7; have c7b1 : decide (500 < ((rd_T52 l0 x9_1).f0).size) = true := decide_eq_true (by omega); clear c7; obtain rfl := Option.some.inj H; have p102 : 0 ≤ (x9_1 : Int) := of_decide_eq_true tW_; have q102 : x9_1 < (l0.length : Int) := of_decide_eq_true tW_; obtain ⟨ad102, e102, hx102_0, hx102_1, hx102_2, hx102_3, hx102_4, hx102_5, hx102_6, hx102_7, hx102_8, hx102_9, hx102_10, hx102_11, hx102_12, hx102_13⟩ := at_T52 HR0.out x9_1 p102 q102; cases e102; replace hx102_0 := bc_ HB hx102_0; replace hx102_1 := bc_ HB hx102_1; replace hx102_2 := bc_ HB hx102_2; replace hx102_3 := bc_ HB hx102_3; replace hx102_4 := bc_ HB hx102_4; replace hx102_5 := bc_ HB hx102_5; replace hx102_6 := bc_ HB hx102_6; replace hx102_7 := bc_ HB hx102_7; replace hx102_8 := bc_ HB hx102_8; replace hx102_9 := bc_ HB hx102_9; replace hx102_10 := bc_ HB hx102_10; replace hx102_11 := bc_ HB hx102_11; replace hx102_12 := bc_ HB hx102_12; replace hx102_13 := bc_ HB hx102_13; replace p102 := eq_true p102; replace q102 := eq_true q102
       go_wp2_with (first | ((with_reducible refine gate_dst (N := 6) rfl ?_); (try (refine gate_guard (by rfl) ?_; dsimp only)); refine bx_ (N := 6) (cs := #[.string (⟨#[]⟩ : ByteArray), .int .i64 0, .int .i64 0, .int .i64 0, .int .i64 0, .int .i64 0, .int .i64 0, .int .i64 0, .int .i64 0, .int .i64 0, .int .i64 0, .int .i64 0, .int .i64 0, .bool false]) (t := 52) ?_; intro gb103 hg w8 hbox hb; have BK103 := Aside0.mk (hbox); have GW103 := Aside0.mk ((dS_ hg (dL1_ HB GE101) : w.heap.size ≤ gb103)); have GE103 := GW103; replace HB := Aside0.mk (below_step (dL1_ HB GE101) hb); have NB101_103 := nb_ hg BK101; have NB103_101 := nc_ hg BK101; replace BK101 := bk_ BK101 hb; clear hb hbox hg; have hnb9 := NB103_101.out; have hnc9 := NB101_103.out; obtain ⟨z10a, z10b, z10c, z10d, z10e, z10f, z10g, z10h, z10i, z10j, z10k, z10l, z10m, z10n, y10a, y10b, y10c, y10d, y10e, y10f, y10g, y10h, y10i, y10j, y10k, y10l, y10m, y10n⟩ := cs14_ BK103.out))
       go_ret
       exact ⟨tE_, dL2_ HB GE101 GE103⟩
      ·rw [if_neg c7] at H; have c7b0 : decide (500 < (((rd_T52 l0 x9_1).f0).size : Int)) = false := decide_eq_false c7; have c7b1 : decide (500 < ((rd_T52 l0 x9_1).f0).size) = false := decide_eq_false (by omega); clear c7; have H' := Aside0.mk H; clear H; have p102 : 0 ≤ (x9_1 : Int) := of_decide_eq_true tW_; have q102 : x9_1 < (l0.length : Int) := of_decide_eq_true tW_; obtain ⟨ad102, e102, hx102_0, hx102_1, hx102_2, hx102_3, hx102_4, hx102_5, hx102_6, hx102_7, hx102_8, hx102_9, hx102_10, hx102_11, hx102_12, hx102_13⟩ := at_T52 HR0.out x9_1 p102 q102; cases e102; replace hx102_0 := bc_ HB hx102_0; replace hx102_1 := bc_ HB hx102_1; replace hx102_2 := bc_ HB hx102_2; replace hx102_3 := bc_ HB hx102_3; replace hx102_4 := bc_ HB hx102_4; replace hx102_5 := bc_ HB hx102_5; replace hx102_6 := bc_ HB hx102_6; replace hx102_7 := bc_ HB hx102_7; replace hx102_8 := bc_ HB hx102_8; replace hx102_9 := bc_ HB hx102_9; replace hx102_10 := bc_ HB hx102_10; replace hx102_11 := bc_ HB hx102_11; replace hx102_12 := bc_ HB hx102_12; replace hx102_13 := bc_ HB hx102_13; replace p102 := eq_true p102; replace q102 := eq_true q102
       go_wp2_with (first | ((with_reducible refine gate_dst (N := 6) rfl ?_); (try (refine gate_guard (by rfl) ?_; dsimp only)); refine bx_ (N := 6) (cs := #[.string (⟨#[]⟩ : ByteArray), .int .i64 0, .int .i64 0, .int .i64 0, .int .i64 0, .int .i64 0, .int .i64 0, .int .i64 0, .int .i64 0, .int .i64 0, .int .i64 0, .int .i64 0, .int .i64 0, .bool false]) (t := 52) ?_; intro gb103 hg w11 hbox hb; have BK103 := Aside0.mk (hbox); have GW103 := Aside0.mk ((dS_ hg (dL1_ HB GE101) : w.heap.size ≤ gb103)); have GE103 := GW103; replace HB := Aside0.mk (below_step (dL1_ HB GE101) hb); have NB101_103 := nb_ hg BK101; have NB103_101 := nc_ hg BK101; replace BK101 := bk_ BK101 hb; clear hb hbox hg; have hnb12 := NB103_101.out; have hnc12 := NB101_103.out; obtain ⟨z13a, z13b, z13c, z13d, z13e, z13f, z13g, z13h, z13i, z13j, z13k, z13l, z13m, z13n, y13a, y13b, y13c, y13d, y13e, y13f, y13g, y13h, y13i, y13j, y13k, y13l, y13m, y13n⟩ := cs14_ BK103.out))
       go_roundg k1
       case measure => have := HK1.out; omega
       case rel => exact ⟨(wrap64 (x9_1 + 1)), tS_, H', ⟨by have := HK1.out; omega⟩, ⟨dF14_ BK101 NB101_103⟩, ⟨dL2_ HB GE101 GE103⟩⟩
     ·rw [if_neg c6] at H; exact absurd H (by simp)
    ·rw [if_neg c5] at H; exact absurd H (by simp)
   ·rw [if_neg c4] at H; have c4b0 : decide (x9_1 < (l0.length : Int)) = false := decide_eq_false c4; clear c4
    by_cases c14 : (l0.length : Int) > 500
    ·rw [if_pos c14] at H; have c14b0 : decide (500 < (l0.length : Int)) = true := decide_eq_true c14; have c14b1 : decide (500 < l0.length) = true := decide_eq_true (by omega); clear c14; obtain rfl := Option.some.inj H; go_wp2
     go_ret
     exact ⟨tE_, dL1_ HB GE101⟩
    ·rw [if_neg c14] at H; have c14b0 : decide (500 < (l0.length : Int)) = false := decide_eq_false c14; have c14b1 : decide (500 < l0.length) = false := decide_eq_false (by omega); clear c14
     by_cases c15 : (l1_0.length : Int) > 500
     ·rw [if_pos c15] at H; have c15b0 : decide (500 < (l1_0.length : Int)) = true := decide_eq_true c15; have c15b1 : decide (500 < l1_0.length) = true := decide_eq_true (by omega); clear c15; obtain rfl := Option.some.inj H; obtain ⟨z16a, z16b, z16c, z16d, z16e, z16f, z16g, y16a, y16b, y16c, y16d, y16e, y16f, y16g⟩ := cs7_ BK101.out; go_wp2
      go_ret
      exact ⟨tE_, dL1_ HB GE101⟩
     ·rw [if_neg c15] at H; have c15b0 : decide (500 < (l1_0.length : Int)) = false := decide_eq_false c15; have c15b1 : decide (500 < l1_0.length) = false := decide_eq_false (by omega); clear c15
      by_cases c17 : (l1_1.length : Int) > 500
      ·rw [if_pos c17] at H; have c17b0 : decide (500 < (l1_1.length : Int)) = true := decide_eq_true c17; have c17b1 : decide (500 < l1_1.length) = true := decide_eq_true (by omega); clear c17; obtain rfl := Option.some.inj H; obtain ⟨z18a, z18b, z18c, z18d, z18e, z18f, z18g, y18a, y18b, y18c, y18d, y18e, y18f, y18g⟩ := cs7_ BK101.out; go_wp2
       go_ret
       exact ⟨tE_, dL1_ HB GE101⟩
      ·rw [if_neg c17] at H; have c17b0 : decide (500 < (l1_1.length : Int)) = false := decide_eq_false c17; have c17b1 : decide (500 < l1_1.length) = false := decide_eq_false (by omega); clear c17; obtain rfl := Option.some.inj H; obtain ⟨z19a, z19b, z19c, z19d, z19e, z19f, z19g, y19a, y19b, y19c, y19d, y19e, y19f, y19g⟩ := cs7_ BK101.out; go_wp2
       go_ret
       exact ⟨tE_, dL1_ HB GE101⟩

end Go.Proofs.Ytgnahbjpockdmab.Q
namespace Go.Proofs.Ytgnahbjpockdmab.Q
open Go.RowKit Go.Proofs.YtgnahbjpockdmabPrs Go.Proofs.YtgnahbjpockdmabOwn Go.Proofs.YtgnahbjpockdmabW.PrintWords Go.Proofs.YtgnahbjpockdmabW.PrintLast Go.Proofs.YtgnahbjpockdmabW.PrintMore
attribute [local go_sem] max2_int min2_int max_two min_two max_three min_three max_four min_four   -- for this text's walks alone
set_option linter.unusedVariables false
set_option linter.unusedSimpArgs false

/-! ### fleet_fits: function 22 -/
mutual
def fleet_fits.l0 : Nat → List (S52) → List Int → List Int → Int → Int → ByteArray → Int → Int → Int → Int → Int → Int → Int → Int → Int → Int → Int → Int → Bool → Option (Int)
  | 0, _, _, _, _, _, _, _, _, _, _, _, _, _, _, _, _, _, _, _ => none
  | k + 1, x0, x1, x14, x15, x16, x107000, x107001, x107002, x107003, x107004, x107005, x107006, x107007, x107008, x107009, x107010, x107011, x107012, x107013 => if x16 < x15 then (if 0 ≤ x16 then (if x16 < (x14.length : Int) then (if 0 ≤ (rd x14 x16) then (if (rd x14 x16) < (x0.length : Int) then (if ((rd_T52 x0 (rd x14 x16)).f1) = x107001 then (fleet_fits.l0 k x0 x1 x14 x15 (wrap64 (x16 + 1)) x107000 x107001 x107002 x107003 x107004 x107005 x107006 x107007 x107008 x107009 x107010 x107011 x107012 x107013) else (some 8)) else (none)) else (none)) else (none)) else (none)) else (if x107001 = 0 then (if x107003 = 0 then (fleet_fits.j1 k true) else (fleet_fits.j1 k false)) else (fleet_fits.j1 k (decide ((x1.length : Int) > 1))))
def fleet_fits.j1 : Nat → Bool → Option (Int)
  | 0, _ => none
  | k + 1, x46 => if x46 = true then (some 8) else (some 0)
end
def fleet_fits.f (k : Nat) (l0 : List (S52)) (l1 : List Int) : Option (Int) := if 0 < (l1.length : Int) then (if 0 ≤ (rd l1 0) then (if (rd l1 0) < (l0.length : Int) then (fleet_fits.l0 k l0 l1 l1 (l1.length : Int) 0 ((rd_T52 l0 (rd l1 0)).f0) ((rd_T52 l0 (rd l1 0)).f1) ((rd_T52 l0 (rd l1 0)).f2) ((rd_T52 l0 (rd l1 0)).f3) ((rd_T52 l0 (rd l1 0)).f4) ((rd_T52 l0 (rd l1 0)).f5) ((rd_T52 l0 (rd l1 0)).f6) ((rd_T52 l0 (rd l1 0)).f7) ((rd_T52 l0 (rd l1 0)).f8) ((rd_T52 l0 (rd l1 0)).f9) ((rd_T52 l0 (rd l1 0)).f10) ((rd_T52 l0 (rd l1 0)).f11) ((rd_T52 l0 (rd l1 0)).f12) ((rd_T52 l0 (rd l1 0)).f13)) else (none)) else (none)) else (none)
theorem fleet_fits.mono_l : ∀ k, (∀ y0 y1 y2 y3 y4 y5 y6 y7 y8 y9 y10 y11 y12 y13 y14 y15 y16 y17 y18, LeO (fleet_fits.l0 k y0 y1 y2 y3 y4 y5 y6 y7 y8 y9 y10 y11 y12 y13 y14 y15 y16 y17 y18) (fleet_fits.l0 (k + 1) y0 y1 y2 y3 y4 y5 y6 y7 y8 y9 y10 y11 y12 y13 y14 y15 y16 y17 y18)) ∧ (∀ y0, LeO (fleet_fits.j1 k y0) (fleet_fits.j1 (k + 1) y0))
  | 0 => ⟨fun _ _ _ _ _ _ _ _ _ _ _ _ _ _ _ _ _ _ _ r h => by simp [fleet_fits.l0] at h, fun _ r h => by simp [fleet_fits.j1] at h⟩
  | k + 1 => by
    obtain ⟨ih0, ih1⟩ := fleet_fits.mono_l k; refine ⟨?_, ?_⟩
    · intro y0 y1 y2 y3 y4 y5 y6 y7 y8 y9 y10 y11 y12 y13 y14 y15 y16 y17 y18
      unfold fleet_fits.l0
      repeat' first
      | (with_reducible first | apply ih0 | apply ih1 | exact LeO.refl _ | exact LeO.none _ | refine LeO.ite ?_ ?_ | refine LeO.bind ?_ (fun _ => ?_))
    · intro y0
      unfold fleet_fits.j1
      repeat' first
      | (with_reducible first | apply ih0 | apply ih1 | exact LeO.refl _ | exact LeO.none _ | refine LeO.ite ?_ ?_ | refine LeO.bind ?_ (fun _ => ?_))
theorem fleet_fits.mono : ∀ a0 a1 k, LeO (fleet_fits.f k a0 a1) (fleet_fits.f (k + 1) a0 a1) := by
  intro a0 a1 k; obtain ⟨ih0, ih1⟩ := fleet_fits.mono_l k
  unfold fleet_fits.f
  repeat' first
      | (with_reducible first | apply ih0 | apply ih1 | exact LeO.refl _ | exact LeO.none _ | refine LeO.ite ?_ ?_ | refine LeO.bind ?_ (fun _ => ?_))
set_option maxHeartbeats 8000000 in
set_option maxRecDepth 100000 in
theorem fleet_fits.calls (k : Nat) (A0 : Option Addr) (c0 : Nat) (l0 : List (S52)) (A1 : Option Addr) (c1 : Nat) (l1 : List Int) (r : Int) (w : World) (hr0 : Kd.C k52 w A0 l0.length l0) (hc0 : l0.length ≤ c0) (hr1 : Kd.C (Kd.int .i64) w A1 l1.length l1) (hc1 : l1.length ≤ c1) (h : fleet_fits.f k l0 l1 = some r) :
    Calls Try.prog 22 #[.slice A0 l0.length c0, .slice A1 l1.length c1] w fun e w' => e = .returned (.int .i64 r) ∧ Below w.heap.size w w' := by
 have hu52 := Try.underlying52; have HR0 := Aside0.mk hr0; have HC0 := Aside0.mk hc0; clear hr0 hc0; have HR1 := Aside0.mk hr1; have HC1 := Aside0.mk hc1; clear hr1 hc1; have HB := Aside0.mk (Below.refl w.heap.size w); have H : (if 0 < (l1.length : Int) then (if 0 ≤ (rd l1 0) then (if (rd l1 0) < (l0.length : Int) then (fleet_fits.l0 k l0 l1 l1 (l1.length : Int) 0 ((rd_T52 l0 (rd l1 0)).f0) ((rd_T52 l0 (rd l1 0)).f1) ((rd_T52 l0 (rd l1 0)).f2) ((rd_T52 l0 (rd l1 0)).f3) ((rd_T52 l0 (rd l1 0)).f4) ((rd_T52 l0 (rd l1 0)).f5) ((rd_T52 l0 (rd l1 0)).f6) ((rd_T52 l0 (rd l1 0)).f7) ((rd_T52 l0 (rd l1 0)).f8) ((rd_T52 l0 (rd l1 0)).f9) ((rd_T52 l0 (rd l1 0)).f10) ((rd_T52 l0 (rd l1 0)).f11) ((rd_T52 l0 (rd l1 0)).f12) ((rd_T52 l0 (rd l1 0)).f13)) else (none)) else (none)) else (none)) = some r := h; clear h
 by_cases c3 : 0 < (l1.length : Int)
 ·rw [if_pos c3] at H; have c3b0 : decide (0 < (l1.length : Int)) = true := decide_eq_true c3; have c3b1 : decide (0 < l1.length) = true := decide_eq_true (by omega); clear c3
  by_cases c4 : 0 ≤ (rd l1 0)
  ·rw [if_pos c4] at H; have c4b0 : decide (0 ≤ (rd l1 0)) = true := decide_eq_true c4; clear c4
   by_cases c5 : (rd l1 0) < (l0.length : Int)
   ·rw [if_pos c5] at H; have c5b0 : decide ((rd l1 0) < (l0.length : Int)) = true := decide_eq_true c5; clear c5; have H' := Aside0.mk H; clear H; have p104 : 0 ≤ (0 : Int) := (by omega); have q104 : 0 < (l1.length : Int) := of_decide_eq_true tW_; obtain ⟨ad104, e104, hx104_0⟩ := Kd.at_int HR1.out 0 p104 q104; cases e104; have qi104 : (0 < l1.length) = True := eq_true (by omega); (try rw [show ((0 : Int)).toNat = 0 from rfl] at hx104_0); (try rw [Addr.add_zero'] at hx104_0); replace p104 := eq_true p104; replace q104 := eq_true q104; have p105 : 0 ≤ ((rd l1 0) : Int) := of_decide_eq_true tW_; have q105 : (rd l1 0) < (l0.length : Int) := of_decide_eq_true tW_; obtain ⟨ad105, e105, hx105_0, hx105_1, hx105_2, hx105_3, hx105_4, hx105_5, hx105_6, hx105_7, hx105_8, hx105_9, hx105_10, hx105_11, hx105_12, hx105_13⟩ := at_T52 HR0.out (rd l1 0) p105 q105; cases e105; replace p105 := eq_true p105; replace q105 := eq_true q105
    go_enter Try.func22, Try.ntmps22
    go_wp2_with (first | ((with_reducible refine gate_dst (N := 5) rfl ?_); (try (refine gate_guard (by rfl) ?_; dsimp only)); refine bx_ (N := 5) (cs := #[.string (⟨#[]⟩ : ByteArray), .int .i64 0, .int .i64 0, .int .i64 0, .int .i64 0, .int .i64 0, .int .i64 0, .int .i64 0, .int .i64 0, .int .i64 0, .int .i64 0, .int .i64 0, .int .i64 0, .bool false]) (t := 52) ?_; intro gb106 hg w6 hbox hb; have BK106 := Aside0.mk (hbox); have GW106 := Aside0.mk ((dS_ hg (dL_ HB) : w.heap.size ≤ gb106)); have GE106 := GW106; replace HB := Aside0.mk (below_step (dL_ HB) hb); clear hb hbox hg; obtain ⟨z7a, z7b, z7c, z7d, z7e, z7f, z7g, z7h, z7i, z7j, z7k, z7l, z7m, z7n, y7a, y7b, y7c, y7d, y7e, y7f, y7g, y7h, y7i, y7j, y7k, y7l, y7m, y7n⟩ := cs14_ BK106.out))
    repeat (go_quiet (first | ((with_reducible refine gate_dst (N := 5) rfl ?_); (try (refine gate_guard (by rfl) ?_; dsimp only)); refine bx_ (N := 5) (cs := #[.string (⟨#[]⟩ : ByteArray), .int .i64 0, .int .i64 0, .int .i64 0, .int .i64 0, .int .i64 0, .int .i64 0, .int .i64 0, .int .i64 0, .int .i64 0, .int .i64 0, .int .i64 0, .int .i64 0, .bool false]) (t := 52) ?_; intro gb106 hg w6 hbox hb; have BK106 := Aside0.mk (hbox); have GW106 := Aside0.mk ((dS_ hg (dL_ HB) : w.heap.size ≤ gb106)); have GE106 := GW106; replace HB := Aside0.mk (below_step (dL_ HB) hb); clear hb hbox hg; obtain ⟨z7a, z7b, z7c, z7d, z7e, z7f, z7g, z7h, z7i, z7j, z7k, z7l, z7m, z7n, y7a, y7b, y7c, y7d, y7e, y7f, y7g, y7h, y7i, y7j, y7k, y7l, y7m, y7n⟩ := cs14_ BK106.out)); try go_wp2_with (first | ((with_reducible refine gate_dst (N := 5) rfl ?_); (try (refine gate_guard (by rfl) ?_; dsimp only)); refine bx_ (N := 5) (cs := #[.string (⟨#[]⟩ : ByteArray), .int .i64 0, .int .i64 0, .int .i64 0, .int .i64 0, .int .i64 0, .int .i64 0, .int .i64 0, .int .i64 0, .int .i64 0, .int .i64 0, .int .i64 0, .int .i64 0, .bool false]) (t := 52) ?_; intro gb106 hg w6 hbox hb; have BK106 := Aside0.mk (hbox); have GW106 := Aside0.mk ((dS_ hg (dL_ HB) : w.heap.size ≤ gb106)); have GE106 := GW106; replace HB := Aside0.mk (below_step (dL_ HB) hb); clear hb hbox hg; obtain ⟨z7a, z7b, z7c, z7d, z7e, z7f, z7g, z7h, z7i, z7j, z7k, z7l, z7m, z7n, y7a, y7b, y7c, y7d, y7e, y7f, y7g, y7h, y7i, y7j, y7k, y7l, y7m, y7n⟩ := cs14_ BK106.out)))
    go_loopg [16] k (fun kq v16 w' => ∃ (x16_1 : Int), v16 = .int .i64 x16_1 ∧ Aside0 (fleet_fits.l0 kq l0 l1 l1 (l1.length : Int) x16_1 ((rd_T52 l0 (rd l1 0)).f0) ((rd_T52 l0 (rd l1 0)).f1) ((rd_T52 l0 (rd l1 0)).f2) ((rd_T52 l0 (rd l1 0)).f3) ((rd_T52 l0 (rd l1 0)).f4) ((rd_T52 l0 (rd l1 0)).f5) ((rd_T52 l0 (rd l1 0)).f6) ((rd_T52 l0 (rd l1 0)).f7) ((rd_T52 l0 (rd l1 0)).f8) ((rd_T52 l0 (rd l1 0)).f9) ((rd_T52 l0 (rd l1 0)).f10) ((rd_T52 l0 (rd l1 0)).f11) ((rd_T52 l0 (rd l1 0)).f12) ((rd_T52 l0 (rd l1 0)).f13) = some r) ∧ Aside0 (kq ≤ k) ∧ Aside0 (w'.heap[gb106]? = some (.cells #[.string ((rd_T52 l0 (rd l1 0)).f0), .int .i64 ((rd_T52 l0 (rd l1 0)).f1), .int .i64 ((rd_T52 l0 (rd l1 0)).f2), .int .i64 ((rd_T52 l0 (rd l1 0)).f3), .int .i64 ((rd_T52 l0 (rd l1 0)).f4), .int .i64 ((rd_T52 l0 (rd l1 0)).f5), .int .i64 ((rd_T52 l0 (rd l1 0)).f6), .int .i64 ((rd_T52 l0 (rd l1 0)).f7), .int .i64 ((rd_T52 l0 (rd l1 0)).f8), .int .i64 ((rd_T52 l0 (rd l1 0)).f9), .int .i64 ((rd_T52 l0 (rd l1 0)).f10), .int .i64 ((rd_T52 l0 (rd l1 0)).f11), .int .i64 ((rd_T52 l0 (rd l1 0)).f12), .bool ((rd_T52 l0 (rd l1 0)).f13)] 52 (0, 0))) ∧ Aside0 (Below w.heap.size w w'))
    case atStart => exact ⟨(0), tS_, H', ⟨Nat.le_refl _⟩, ⟨dP14_ BK106⟩, ⟨dL1_ HB GE106⟩⟩
    case round =>
     clear H'; (try clear c1); (try clear c3); (try clear c3b0); (try clear c3b1); (try clear c4); (try clear c4b0); (try clear c5); (try clear c5b0); (try clear z7a z7b z7k z7l z7m z7n z7c z7d z7e z7f z7g z7h z7i z7j y7a y7b y7k y7l y7m y7n y7c y7d y7e y7f y7g y7h y7i y7j); (try clear hx104_0); (try clear hx105_0); (try clear hx105_1); (try clear hx105_10); (try clear hx105_11); (try clear hx105_12); (try clear hx105_13); (try clear hx105_2); (try clear hx105_3); (try clear hx105_4); (try clear hx105_5); (try clear hx105_6); (try clear hx105_7); (try clear hx105_8); (try clear hx105_9); (try clear p104); (try clear p105); (try clear q104); (try clear q105); obtain ⟨x16_1, rfl, HA, HK1, BK106, HB⟩ := hrel
     cases gk with
     | zero => exact absurd HA.out (by simp [fleet_fits.l0])
     | succ k1 =>
      have H := HA.out; clear HA; simp only [fleet_fits.l0] at H
      by_cases c8 : x16_1 < (l1.length : Int)
      ·rw [if_pos c8] at H; have c8b0 : decide (x16_1 < (l1.length : Int)) = true := decide_eq_true c8; clear c8
       by_cases c9 : 0 ≤ x16_1
       ·rw [if_pos c9] at H; have c9b0 : decide (0 ≤ x16_1) = true := decide_eq_true c9; clear c9
        by_cases c10 : x16_1 < (l1.length : Int)
        ·rw [if_pos c10] at H; have c10b0 : decide (x16_1 < (l1.length : Int)) = true := decide_eq_true c10; clear c10
         by_cases c11 : 0 ≤ (rd l1 x16_1)
         ·rw [if_pos c11] at H; have c11b0 : decide (0 ≤ (rd l1 x16_1)) = true := decide_eq_true c11; clear c11
          by_cases c12 : (rd l1 x16_1) < (l0.length : Int)
          ·rw [if_pos c12] at H; have c12b0 : decide ((rd l1 x16_1) < (l0.length : Int)) = true := decide_eq_true c12; clear c12
           by_cases c13 : ((rd_T52 l0 (rd l1 x16_1)).f1) = ((rd_T52 l0 (rd l1 0)).f1)
           ·rw [if_pos c13] at H; have c13b0 : (((rd_T52 l0 (rd l1 x16_1)).f1) == ((rd_T52 l0 (rd l1 0)).f1)) = true := beq_iff_eq.mpr c13; have c13b1 : (((rd_T52 l0 (rd l1 x16_1)).f1) != ((rd_T52 l0 (rd l1 0)).f1)) = false := bne_eq_false_iff_eq.mpr c13; clear c13; have H' := Aside0.mk H; clear H; have p107 : 0 ≤ (x16_1 : Int) := of_decide_eq_true tW_; have q107 : x16_1 < (l1.length : Int) := of_decide_eq_true tW_; obtain ⟨ad107, e107, hx107_0⟩ := Kd.at_int HR1.out x16_1 p107 q107; obtain rfl : ad104 = ad107 := (by injection e107); replace hx107_0 := bc_ HB hx107_0; replace p107 := eq_true p107; replace q107 := eq_true q107; have p108 : 0 ≤ ((rd l1 x16_1) : Int) := of_decide_eq_true tW_; have q108 : (rd l1 x16_1) < (l0.length : Int) := of_decide_eq_true tW_; obtain ⟨ad108, e108, hx108_0, hx108_1, hx108_2, hx108_3, hx108_4, hx108_5, hx108_6, hx108_7, hx108_8, hx108_9, hx108_10, hx108_11, hx108_12, hx108_13⟩ := at_T52 HR0.out (rd l1 x16_1) p108 q108; obtain rfl : ad105 = ad108 := (by injection e108); replace hx108_0 := bc_ HB hx108_0; replace hx108_1 := bc_ HB hx108_1; replace hx108_2 := bc_ HB hx108_2; replace hx108_3 := bc_ HB hx108_3; replace hx108_4 := bc_ HB hx108_4; replace hx108_5 := bc_ HB hx108_5; replace hx108_6 := bc_ HB hx108_6; replace hx108_7 := bc_ HB hx108_7; replace hx108_8 := bc_ HB hx108_8; replace hx108_9 := bc_ HB hx108_9; replace hx108_10 := bc_ HB hx108_10; replace hx108_11 := bc_ HB hx108_11; replace hx108_12 := bc_ HB hx108_12; replace hx108_13 := bc_ HB hx108_13; replace p108 := eq_true p108; replace q108 := eq_true q108; obtain ⟨z14a, z14b, z14c, z14d, z14e, z14f, z14g, z14h, z14i, z14j, z14k, z14l, z14m, z14n, y14a, y14b, y14c, y14d, y14e, y14f, y14g, y14h, y14i, y14j, y14k, y14l, y14m, y14n⟩ := cs14_ BK106.out; go_wp2
            repeat (go_quiet (fail); try go_wp2)
            go_roundg k1
            case measure => have := HK1.out; omega
            case rel => exact ⟨(wrap64 (x16_1 + 1)), tS_, H', ⟨by have := HK1.out; omega⟩, ⟨dB_ BK106⟩, ⟨dL1_ HB GE106⟩⟩
           ·rw [if_neg c13] at H; have c13b0 : (((rd_T52 l0 (rd l1 x16_1)).f1) == ((rd_T52 l0 (rd l1 0)).f1)) = false := beq_eq_false_iff_ne.mpr c13; have c13b1 : (((rd_T52 l0 (rd l1 x16_1)).f1) != ((rd_T52 l0 (rd l1 0)).f1)) = true := bne_iff_ne.mpr c13; obtain rfl := Option.some.inj H; have p107 : 0 ≤ (x16_1 : Int) := of_decide_eq_true tW_; have q107 : x16_1 < (l1.length : Int) := of_decide_eq_true tW_; obtain ⟨ad107, e107, hx107_0⟩ := Kd.at_int HR1.out x16_1 p107 q107; obtain rfl : ad104 = ad107 := (by injection e107); replace hx107_0 := bc_ HB hx107_0; replace p107 := eq_true p107; replace q107 := eq_true q107; have p108 : 0 ≤ ((rd l1 x16_1) : Int) := of_decide_eq_true tW_; have q108 : (rd l1 x16_1) < (l0.length : Int) := of_decide_eq_true tW_; obtain ⟨ad108, e108, hx108_0, hx108_1, hx108_2, hx108_3, hx108_4, hx108_5, hx108_6, hx108_7, hx108_8, hx108_9, hx108_10, hx108_11, hx108_12, hx108_13⟩ := at_T52 HR0.out (rd l1 x16_1) p108 q108; obtain rfl : ad105 = ad108 := (by injection e108); replace hx108_0 := bc_ HB hx108_0; replace hx108_1 := bc_ HB hx108_1; replace hx108_2 := bc_ HB hx108_2; replace hx108_3 := bc_ HB hx108_3; replace hx108_4 := bc_ HB hx108_4; replace hx108_5 := bc_ HB hx108_5; replace hx108_6 := bc_ HB hx108_6; replace hx108_7 := bc_ HB hx108_7; replace hx108_8 := bc_ HB hx108_8; replace hx108_9 := bc_ HB hx108_9; replace hx108_10 := bc_ HB hx108_10; replace hx108_11 := bc_ HB hx108_11; replace hx108_12 := bc_ HB hx108_12; replace hx108_13 := bc_ HB hx108_13; replace p108 := eq_true p108; replace q108 := eq_true q108; obtain ⟨z15a, z15b, z15c, z15d, z15e, z15f, z15g, z15h, z15i, z15j, z15k, z15l, z15m, z15n, y15a, y15b, y15c, y15d, y15e, y15f, y15g, y15h, y15i, y15j, y15k, y15l, y15m, y15n⟩ := cs14_ BK106.out; go_wp2
            repeat (go_quiet (fail); try go_wp2)
            go_ret
            exact ⟨tE_, dL1_ HB GE106⟩
          ·rw [if_neg c12] at H; exact absurd H (by simp)
         ·rw [if_neg c11] at H; exact absurd H (by simp)
        ·rw [if_neg c10] at H; exact absurd H (by simp)
       ·rw [if_neg c9] at H; exact absurd H (by simp)
      ·rw [if_neg c8] at H; have c8b0 : decide (x16_1 < (l1.length : Int)) = false := decide_eq_false c8; clear c8; have HC16 := Aside0.mk H; clear H
       go_upto_region 8 with (fail)
       repeat (go_quiet (fail); go_upto_region 8 with (fail))
       go_cut [46] (fun v46 wc => ∃ (kq : Nat) (x46_15 : Bool), v46 = .bool x46_15 ∧ Aside0 (fleet_fits.j1 kq x46_15 = some r) ∧ Aside0 (kq ≤ k1) ∧ Aside0 (wc.heap[gb106]? = some (.cells #[.string ((rd_T52 l0 (rd l1 0)).f0), .int .i64 ((rd_T52 l0 (rd l1 0)).f1), .int .i64 ((rd_T52 l0 (rd l1 0)).f2), .int .i64 ((rd_T52 l0 (rd l1 0)).f3), .int .i64 ((rd_T52 l0 (rd l1 0)).f4), .int .i64 ((rd_T52 l0 (rd l1 0)).f5), .int .i64 ((rd_T52 l0 (rd l1 0)).f6), .int .i64 ((rd_T52 l0 (rd l1 0)).f7), .int .i64 ((rd_T52 l0 (rd l1 0)).f8), .int .i64 ((rd_T52 l0 (rd l1 0)).f9), .int .i64 ((rd_T52 l0 (rd l1 0)).f10), .int .i64 ((rd_T52 l0 (rd l1 0)).f11), .int .i64 ((rd_T52 l0 (rd l1 0)).f12), .bool ((rd_T52 l0 (rd l1 0)).f13)] 52 (0, 0))) ∧ Aside0 (Below w.heap.size w wc))
       case first =>
        have H := HC16.out; clear HC16
        by_cases c17 : ((rd_T52 l0 (rd l1 0)).f1) = 0
        ·rw [if_pos c17] at H; have c17b0 : (((rd_T52 l0 (rd l1 0)).f1) == 0) = true := beq_iff_eq.mpr c17; have c17b1 : (((rd_T52 l0 (rd l1 0)).f1) != 0) = false := bne_eq_false_iff_eq.mpr c17; clear c17
         (first | rw [c17b0] | (simp only [i64_w, i32_w]; rw [c17b0]) | skip)
         by_cases c18 : ((rd_T52 l0 (rd l1 0)).f3) = 0
         ·rw [if_pos c18] at H; have c18b0 : (((rd_T52 l0 (rd l1 0)).f3) == 0) = true := beq_iff_eq.mpr c18; have c18b1 : (((rd_T52 l0 (rd l1 0)).f3) != 0) = false := bne_eq_false_iff_eq.mpr c18; clear c18; have H' := Aside0.mk H; clear H; obtain ⟨z19a, z19b, z19c, z19d, z19e, z19f, z19g, z19h, z19i, z19j, z19k, z19l, z19m, z19n, y19a, y19b, y19c, y19d, y19e, y19f, y19g, y19h, y19i, y19j, y19k, y19l, y19m, y19n⟩ := cs14_ BK106.out; go_wp2
          repeat (go_quiet (fail); try go_wp2)
          go_meet
          case rel => exact ⟨_, (true), tS_, H', ⟨by have := HK1.out; first | omega | exact Nat.le_refl _⟩, ⟨dB_ BK106⟩, ⟨dL1_ HB GE106⟩⟩
         ·rw [if_neg c18] at H; have c18b0 : (((rd_T52 l0 (rd l1 0)).f3) == 0) = false := beq_eq_false_iff_ne.mpr c18; have c18b1 : (((rd_T52 l0 (rd l1 0)).f3) != 0) = true := bne_iff_ne.mpr c18; have H' := Aside0.mk H; clear H; obtain ⟨z20a, z20b, z20c, z20d, z20e, z20f, z20g, z20h, z20i, z20j, z20k, z20l, z20m, z20n, y20a, y20b, y20c, y20d, y20e, y20f, y20g, y20h, y20i, y20j, y20k, y20l, y20m, y20n⟩ := cs14_ BK106.out; go_wp2
          repeat (go_quiet (fail); try go_wp2)
          go_meet
          case rel => exact ⟨_, (false), tS_, H', ⟨by have := HK1.out; first | omega | exact Nat.le_refl _⟩, ⟨dB_ BK106⟩, ⟨dL1_ HB GE106⟩⟩
        ·rw [if_neg c17] at H; have c17b0 : (((rd_T52 l0 (rd l1 0)).f1) == 0) = false := beq_eq_false_iff_ne.mpr c17; have c17b1 : (((rd_T52 l0 (rd l1 0)).f1) != 0) = true := bne_iff_ne.mpr c17
         (first | rw [c17b0] | (simp only [i64_w, i32_w]; rw [c17b0]) | skip)
         have H' := Aside0.mk H; clear H; obtain ⟨z21a, z21b, z21c, z21d, z21e, z21f, z21g, z21h, z21i, z21j, z21k, z21l, z21m, z21n, y21a, y21b, y21c, y21d, y21e, y21f, y21g, y21h, y21i, y21j, y21k, y21l, y21m, y21n⟩ := cs14_ BK106.out; go_wp2
         repeat (go_quiet (fail); try go_wp2)
         go_meet
         case rel => exact ⟨_, (decide ((l1.length : Int) > 1)), tS_, H', ⟨by have := HK1.out; first | omega | exact Nat.le_refl _⟩, ⟨dB_ BK106⟩, ⟨dL1_ HB GE106⟩⟩
       case rest =>
        clear HC16; (try clear c1); (try clear c3); (try clear c3b0); (try clear c3b1); (try clear c4); (try clear c4b0); (try clear c5); (try clear c5b0); (try clear c8); (try clear c8b0); (try clear c9); (try clear c10); (try clear c11); (try clear c12); (try clear c13); (try clear c17); (try clear c18); (try clear z7a z7b z7k z7l z7m z7n z7c z7d z7e z7f z7g z7h z7i z7j y7a y7b y7k y7l y7m y7n y7c y7d y7e y7f y7g y7h y7i y7j); (try clear hx104_0); (try clear hx105_0); (try clear hx105_1); (try clear hx105_10); (try clear hx105_11); (try clear hx105_12); (try clear hx105_13); (try clear hx105_2); (try clear hx105_3); (try clear hx105_4); (try clear hx105_5); (try clear hx105_6); (try clear hx105_7); (try clear hx105_8); (try clear hx105_9); (try clear p104); (try clear p105); (try clear q104); (try clear q105); obtain ⟨kq, x46_15, rfl, HA, HJ15, BK106, HB⟩ := hcut
        cases kq with
        | zero => exact absurd HA.out (by simp [fleet_fits.j1])
        | succ kj15 =>
         have H := HA.out; clear HA; simp only [fleet_fits.j1] at H
         by_cases c22 : x46_15 = true
         ·subst c22; rw [if_pos rfl] at H; obtain rfl := Option.some.inj H; go_wp2
          repeat (go_quiet (fail); try go_wp2)
          go_ret
          exact ⟨tE_, dL1_ HB GE106⟩
         ·replace c22 := Bool.eq_false_iff.mpr c22; subst c22; rw [if_neg (show ¬ (false = true) by decide)] at H; obtain rfl := Option.some.inj H; go_wp2
          repeat (go_quiet (fail); try go_wp2)
          go_ret
          exact ⟨tE_, dL1_ HB GE106⟩
   ·rw [if_neg c5] at H; exact absurd H (by simp)
  ·rw [if_neg c4] at H; exact absurd H (by simp)
 ·rw [if_neg c3] at H; exact absurd H (by simp)

end Go.Proofs.Ytgnahbjpockdmab.Q
namespace Go.Proofs.Ytgnahbjpockdmab.Q
open Go.RowKit Go.Proofs.YtgnahbjpockdmabPrs Go.Proofs.YtgnahbjpockdmabOwn Go.Proofs.YtgnahbjpockdmabW.PrintWords Go.Proofs.YtgnahbjpockdmabW.PrintLast Go.Proofs.YtgnahbjpockdmabW.PrintMore
attribute [local go_sem] max2_int min2_int max_two min_two max_three min_three max_four min_four   -- for this text's walks alone
set_option linter.unusedVariables false
set_option linter.unusedSimpArgs false

/-! ### fleet_within: function 18 -/
mutual
def fleet_within.l0 : Nat → Int → Int → List Int → Int → Int → Option (Bool)
  | 0, _, _, _, _, _ => none
  | k + 1, x0, x1, x9, x10, x11 => if x11 < x10 then (if 0 ≤ x11 then (if x11 < (x9.length : Int) then (if (rd x9 x11) < x0 then (fleet_within.j1 k x0 x1 x9 x10 x11 true) else (fleet_within.j1 k x0 x1 x9 x10 x11 (decide ((rd x9 x11) > x1)))) else (none)) else (none)) else (some true)
def fleet_within.j1 : Nat → Int → Int → List Int → Int → Int → Bool → Option (Bool)
  | 0, _, _, _, _, _, _ => none
  | k + 1, x0, x1, x9, x10, x11, x22 => if x22 = true then (some false) else (fleet_within.l0 k x0 x1 x9 x10 (wrap64 (x11 + 1)))
end
def fleet_within.f (k : Nat) (a0 : Int) (a1 : Int) (l2 : List Int) : Option (Bool) := fleet_within.l0 k a0 a1 l2 (l2.length : Int) 0
theorem fleet_within.mono_l : ∀ k, (∀ y0 y1 y2 y3 y4, LeO (fleet_within.l0 k y0 y1 y2 y3 y4) (fleet_within.l0 (k + 1) y0 y1 y2 y3 y4)) ∧ (∀ y0 y1 y2 y3 y4 y5, LeO (fleet_within.j1 k y0 y1 y2 y3 y4 y5) (fleet_within.j1 (k + 1) y0 y1 y2 y3 y4 y5))
  | 0 => ⟨fun _ _ _ _ _ r h => by simp [fleet_within.l0] at h, fun _ _ _ _ _ _ r h => by simp [fleet_within.j1] at h⟩
  | k + 1 => by
    obtain ⟨ih0, ih1⟩ := fleet_within.mono_l k; refine ⟨?_, ?_⟩
    · intro y0 y1 y2 y3 y4
      unfold fleet_within.l0
      repeat' first
      | (with_reducible first | apply ih0 | apply ih1 | exact LeO.refl _ | exact LeO.none _ | refine LeO.ite ?_ ?_ | refine LeO.bind ?_ (fun _ => ?_))
    · intro y0 y1 y2 y3 y4 y5
      unfold fleet_within.j1
      repeat' first
      | (with_reducible first | apply ih0 | apply ih1 | exact LeO.refl _ | exact LeO.none _ | refine LeO.ite ?_ ?_ | refine LeO.bind ?_ (fun _ => ?_))
theorem fleet_within.mono : ∀ a0 a1 a2 k, LeO (fleet_within.f k a0 a1 a2) (fleet_within.f (k + 1) a0 a1 a2) := by
  intro a0 a1 a2 k; obtain ⟨ih0, ih1⟩ := fleet_within.mono_l k
  unfold fleet_within.f
  repeat' first
      | (with_reducible first | apply ih0 | apply ih1 | exact LeO.refl _ | exact LeO.none _ | refine LeO.ite ?_ ?_ | refine LeO.bind ?_ (fun _ => ?_))
set_option maxHeartbeats 8000000 in
set_option maxRecDepth 100000 in
theorem fleet_within.calls (k : Nat) (a0 : Int) (a1 : Int) (A2 : Option Addr) (c2 : Nat) (l2 : List Int) (r : Bool) (w : World) (hr2 : Kd.C (Kd.int .i64) w A2 l2.length l2) (hc2 : l2.length ≤ c2) (h : fleet_within.f k a0 a1 l2 = some r) :
    Calls Try.prog 18 #[.int .i64 a0, .int .i64 a1, .slice A2 l2.length c2] w fun e w' => e = .returned (.bool r) ∧ Drawn0 w w' := by
 have HR2 := Aside0.mk hr2; have HC2 := Aside0.mk hc2; clear hr2 hc2; have H : (fleet_within.l0 k a0 a1 l2 (l2.length : Int) 0) = some r := h; clear h; have H' := Aside0.mk H; clear H
 go_enter Try.func18, Try.ntmps18
 go_wp2
 go_loopg [11] k (fun kq v11 w' => ∃ (x11_1 : Int), v11 = .int .i64 x11_1 ∧ Aside0 (fleet_within.l0 kq a0 a1 l2 (l2.length : Int) x11_1 = some r) ∧ Aside0 (kq ≤ k) ∧ Drawn0 w w')
 case atStart => exact ⟨(0), tS_, H', ⟨Nat.le_refl _⟩, by repeat (first | exact Drawn0.refl _ | apply Drawn0.step)⟩
 case round =>
  clear H'; (try clear c2); obtain ⟨x11_1, rfl, HA, HK1, ⟨m1, rfl⟩⟩ := hrel
  cases gk with
  | zero => exact absurd HA.out (by simp [fleet_within.l0])
  | succ k1 =>
   have H := HA.out; clear HA; simp only [fleet_within.l0] at H
   by_cases c4 : x11_1 < (l2.length : Int)
   ·rw [if_pos c4] at H; have c4b0 : decide (x11_1 < (l2.length : Int)) = true := decide_eq_true c4; clear c4
    by_cases c5 : 0 ≤ x11_1
    ·rw [if_pos c5] at H; have c5b0 : decide (0 ≤ x11_1) = true := decide_eq_true c5; clear c5
     by_cases c6 : x11_1 < (l2.length : Int)
     ·rw [if_pos c6] at H; have c6b0 : decide (x11_1 < (l2.length : Int)) = true := decide_eq_true c6; clear c6; have HC7 := Aside0.mk H; clear H; have p109 : 0 ≤ (x11_1 : Int) := of_decide_eq_true tW_; have q109 : x11_1 < (l2.length : Int) := of_decide_eq_true tW_; obtain ⟨ad109, e109, hx109_0⟩ := Kd.at_int HR2.out x11_1 p109 q109; cases e109; replace p109 := eq_true p109; replace q109 := eq_true q109
      go_upto_region 4 with (fail)
      go_cut [22] (fun v22 wc => ∃ (kq : Nat) (x22_6 : Bool), v22 = .bool x22_6 ∧ Aside0 (fleet_within.j1 kq a0 a1 l2 (l2.length : Int) x11_1 x22_6 = some r) ∧ Aside0 (kq ≤ k1) ∧ Drawn0 w wc)
      case first =>
       have H := HC7.out; clear HC7
       by_cases c8 : (rd l2 x11_1) < a0
       ·rw [if_pos c8] at H; have c8b0 : decide ((rd l2 x11_1) < a0) = true := decide_eq_true c8; clear c8
        (first | rw [c8b0] | (simp only [i64_w, i32_w]; rw [c8b0]) | skip)
        have H' := Aside0.mk H; clear H; go_wp2
        go_meet
        case rel => exact ⟨_, (true), tS_, H', ⟨by have := HK1.out; first | omega | exact Nat.le_refl _⟩, by repeat (first | exact Drawn0.refl _ | apply Drawn0.step)⟩
       ·rw [if_neg c8] at H; have c8b0 : decide ((rd l2 x11_1) < a0) = false := decide_eq_false c8; clear c8
        (first | rw [c8b0] | (simp only [i64_w, i32_w]; rw [c8b0]) | skip)
        have H' := Aside0.mk H; clear H; go_wp2
        go_meet
        case rel => exact ⟨_, (decide ((rd l2 x11_1) > a1)), tS_, H', ⟨by have := HK1.out; first | omega | exact Nat.le_refl _⟩, by repeat (first | exact Drawn0.refl _ | apply Drawn0.step)⟩
      case rest =>
       clear HC7; (try clear c2); (try clear c4); (try clear c4b0); (try clear c5); (try clear c5b0); (try clear c6); (try clear c6b0); (try clear c8); (try clear hx109_0); (try clear p109); (try clear q109); obtain ⟨kq, x22_6, rfl, HA, HJ6, ⟨mc6, rfl⟩⟩ := hcut
       cases kq with
       | zero => exact absurd HA.out (by simp [fleet_within.j1])
       | succ kj6 =>
        have H := HA.out; clear HA; simp only [fleet_within.j1] at H
        by_cases c9 : x22_6 = true
        ·subst c9; rw [if_pos rfl] at H; obtain rfl := Option.some.inj H; go_wp2
         go_ret
         exact ⟨tS_, by repeat (first | exact Drawn0.refl _ | apply Drawn0.step)⟩
        ·replace c9 := Bool.eq_false_iff.mpr c9; subst c9; rw [if_neg (show ¬ (false = true) by decide)] at H; have H' := Aside0.mk H; clear H; go_wp2
         go_roundg kj6
         case measure => have := HK1.out; have := HJ6.out; omega
         case rel => exact ⟨(wrap64 (x11_1 + 1)), tS_, H', ⟨by have := HK1.out; have := HJ6.out; omega⟩, by repeat (first | exact Drawn0.refl _ | apply Drawn0.step)⟩
     ·rw [if_neg c6] at H; exact absurd H (by simp)
    ·rw [if_neg c5] at H; exact absurd H (by simp)
   ·rw [if_neg c4] at H; have c4b0 : decide (x11_1 < (l2.length : Int)) = false := decide_eq_false c4; clear c4; obtain rfl := Option.some.inj H; go_wp2
    go_ret
    exact ⟨tS_, by repeat (first | exact Drawn0.refl _ | apply Drawn0.step)⟩

end Go.Proofs.Ytgnahbjpockdmab.Q
namespace Go.Proofs.Ytgnahbjpockdmab.Q
open Go.RowKit Go.Proofs.YtgnahbjpockdmabPrs Go.Proofs.YtgnahbjpockdmabOwn Go.Proofs.YtgnahbjpockdmabW.PrintWords Go.Proofs.YtgnahbjpockdmabW.PrintLast Go.Proofs.YtgnahbjpockdmabW.PrintMore
attribute [local go_sem] max2_int min2_int max_two min_two max_three min_three max_four min_four   -- for this text's walks alone
set_option linter.unusedVariables false
set_option linter.unusedSimpArgs false

/-! ### fleet_named: function 54 -/
mutual
def fleet_named.l0 : Nat → ByteArray → Int → Int → Option (Bool)
  | 0, _, _, _ => none
  | k + 1, x0, x5, x6 => if x6 < x5 then (if 0 ≤ x6 then (if x6 < (x0.size : Int) then (if (bt x0 x6) < 97 then (fleet_named.j1 k x0 x5 x6 true) else (fleet_named.j1 k x0 x5 x6 (decide ((bt x0 x6) > 122)))) else (none)) else (none)) else (if x0.toList = ([] : List UInt8) then (some false) else (some (decide ((x0.size : Int) ≤ 12))))
def fleet_named.j1 : Nat → ByteArray → Int → Int → Bool → Option (Bool)
  | 0, _, _, _, _ => none
  | k + 1, x0, x5, x6, x18 => if x18 = true then (some false) else (fleet_named.l0 k x0 x5 (wrap64 (x6 + 1)))
end
def fleet_named.f (k : Nat) (a0 : ByteArray) : Option (Bool) := fleet_named.l0 k a0 (a0.size : Int) 0
theorem fleet_named.mono_l : ∀ k, (∀ y0 y1 y2, LeO (fleet_named.l0 k y0 y1 y2) (fleet_named.l0 (k + 1) y0 y1 y2)) ∧ (∀ y0 y1 y2 y3, LeO (fleet_named.j1 k y0 y1 y2 y3) (fleet_named.j1 (k + 1) y0 y1 y2 y3))
  | 0 => ⟨fun _ _ _ r h => by simp [fleet_named.l0] at h, fun _ _ _ _ r h => by simp [fleet_named.j1] at h⟩
  | k + 1 => by
    obtain ⟨ih0, ih1⟩ := fleet_named.mono_l k; refine ⟨?_, ?_⟩
    · intro y0 y1 y2
      unfold fleet_named.l0
      repeat' first
      | (with_reducible first | apply ih0 | apply ih1 | exact LeO.refl _ | exact LeO.none _ | refine LeO.ite ?_ ?_ | refine LeO.bind ?_ (fun _ => ?_))
    · intro y0 y1 y2 y3
      unfold fleet_named.j1
      repeat' first
      | (with_reducible first | apply ih0 | apply ih1 | exact LeO.refl _ | exact LeO.none _ | refine LeO.ite ?_ ?_ | refine LeO.bind ?_ (fun _ => ?_))
theorem fleet_named.mono : ∀ a0 k, LeO (fleet_named.f k a0) (fleet_named.f (k + 1) a0) := by
  intro a0 k; obtain ⟨ih0, ih1⟩ := fleet_named.mono_l k
  unfold fleet_named.f
  repeat' first
      | (with_reducible first | apply ih0 | apply ih1 | exact LeO.refl _ | exact LeO.none _ | refine LeO.ite ?_ ?_ | refine LeO.bind ?_ (fun _ => ?_))
set_option maxHeartbeats 8000000 in
set_option maxRecDepth 100000 in
theorem fleet_named.calls (k : Nat) (a0 : ByteArray) (r : Bool) (w : World) (h : fleet_named.f k a0 = some r) :
    Calls Try.prog 54 #[.string a0] w fun e w' => e = .returned (.bool r) ∧ Drawn0 w w' := by
 have H : (fleet_named.l0 k a0 (a0.size : Int) 0) = some r := h; clear h; have H' := Aside0.mk H; clear H
 go_enter Try.func54, Try.ntmps54
 go_wp2
 go_loopg [6] k (fun kq v6 w' => ∃ (x6_1 : Int), v6 = .int .i64 x6_1 ∧ Aside0 (fleet_named.l0 kq a0 (a0.size : Int) x6_1 = some r) ∧ Aside0 (kq ≤ k) ∧ Drawn0 w w')
 case atStart => exact ⟨(0), tS_, H', ⟨Nat.le_refl _⟩, by repeat (first | exact Drawn0.refl _ | apply Drawn0.step)⟩
 case round =>
  clear H'; obtain ⟨x6_1, rfl, HA, HK1, ⟨m1, rfl⟩⟩ := hrel
  cases gk with
  | zero => exact absurd HA.out (by simp [fleet_named.l0])
  | succ k1 =>
   have H := HA.out; clear HA; simp only [fleet_named.l0] at H
   by_cases c2 : x6_1 < (a0.size : Int)
   ·rw [if_pos c2] at H; have c2b0 : decide (x6_1 < (a0.size : Int)) = true := decide_eq_true c2; clear c2; have HC3 := Aside0.mk H; clear H
    go_upto_region 4 with (fail)
    go_cut [18] (fun v18 wc => ∃ (kq : Nat) (x18_2 : Bool), v18 = .bool x18_2 ∧ Aside0 (fleet_named.j1 kq a0 (a0.size : Int) x6_1 x18_2 = some r) ∧ Aside0 (kq ≤ k1) ∧ Drawn0 w wc)
    case first =>
     have H := HC3.out; clear HC3
     by_cases c4 : 0 ≤ x6_1
     ·rw [if_pos c4] at H; have c4b0 : decide (0 ≤ x6_1) = true := decide_eq_true c4; clear c4
      (first | rw [c4b0] | (simp only [i64_w, i32_w]; rw [c4b0]) | skip)
      by_cases c5 : x6_1 < (a0.size : Int)
      ·rw [if_pos c5] at H; have c5b0 : decide (x6_1 < (a0.size : Int)) = true := decide_eq_true c5; clear c5
       by_cases c7 : (bt a0 x6_1) < 97
       ·rw [if_pos c7] at H; have c7b0 : decide ((bt a0 x6_1) < 97) = true := decide_eq_true c7; clear c7; have H' := Aside0.mk H; clear H; have p6 : 0 ≤ (x6_1 : Int) := of_decide_eq_true tW_; have q6 : x6_1 < (a0.size : Int) := of_decide_eq_true tW_; have hx6 := bt_at a0 x6_1; replace p6 := eq_true p6; replace q6 := eq_true q6; go_wp2
        go_meet
        case rel => exact ⟨_, (true), tS_, H', ⟨by have := HK1.out; first | omega | exact Nat.le_refl _⟩, by repeat (first | exact Drawn0.refl _ | apply Drawn0.step)⟩
       ·rw [if_neg c7] at H; have c7b0 : decide ((bt a0 x6_1) < 97) = false := decide_eq_false c7; clear c7; have H' := Aside0.mk H; clear H; have p6 : 0 ≤ (x6_1 : Int) := of_decide_eq_true tW_; have q6 : x6_1 < (a0.size : Int) := of_decide_eq_true tW_; have hx6 := bt_at a0 x6_1; replace p6 := eq_true p6; replace q6 := eq_true q6; have p8 : 0 ≤ (x6_1 : Int) := of_decide_eq_true tW_; have q8 : x6_1 < (a0.size : Int) := of_decide_eq_true tW_; have hx8 := bt_at a0 x6_1; replace p8 := eq_true p8; replace q8 := eq_true q8; go_wp2
        go_meet
        case rel => exact ⟨_, (decide ((bt a0 x6_1) > 122)), tS_, H', ⟨by have := HK1.out; first | omega | exact Nat.le_refl _⟩, by repeat (first | exact Drawn0.refl _ | apply Drawn0.step)⟩
      ·rw [if_neg c5] at H; exact absurd H (by simp)
     ·rw [if_neg c4] at H; exact absurd H (by simp)
    case rest =>
     clear HC3; (try clear c2); (try clear c2b0); (try clear c4); (try clear c5); (try clear c7); obtain ⟨kq, x18_2, rfl, HA, HJ2, ⟨mc2, rfl⟩⟩ := hcut
     cases kq with
     | zero => exact absurd HA.out (by simp [fleet_named.j1])
     | succ kj2 =>
      have H := HA.out; clear HA; simp only [fleet_named.j1] at H
      by_cases c9 : x18_2 = true
      ·subst c9; rw [if_pos rfl] at H; obtain rfl := Option.some.inj H; go_wp2
       go_ret
       exact ⟨tS_, by repeat (first | exact Drawn0.refl _ | apply Drawn0.step)⟩
      ·replace c9 := Bool.eq_false_iff.mpr c9; subst c9; rw [if_neg (show ¬ (false = true) by decide)] at H; have H' := Aside0.mk H; clear H; go_wp2
       go_roundg kj2
       case measure => have := HK1.out; have := HJ2.out; omega
       case rel => exact ⟨(wrap64 (x6_1 + 1)), tS_, H', ⟨by have := HK1.out; have := HJ2.out; omega⟩, by repeat (first | exact Drawn0.refl _ | apply Drawn0.step)⟩
   ·rw [if_neg c2] at H; have c2b0 : decide (x6_1 < (a0.size : Int)) = false := decide_eq_false c2; clear c2
    by_cases c10 : a0.toList = ([] : List UInt8)
    ·rw [if_pos c10] at H; have c10b0 : (a0.toList == ([] : List UInt8)) = true := beq_iff_eq.mpr c10; have c10b1 : (a0.toList != ([] : List UInt8)) = false := bne_eq_false_iff_eq.mpr c10; clear c10; obtain rfl := Option.some.inj H; go_wp2
     go_ret
     exact ⟨tS_, by repeat (first | exact Drawn0.refl _ | apply Drawn0.step)⟩
    ·rw [if_neg c10] at H; have c10b0 : (a0.toList == ([] : List UInt8)) = false := beq_eq_false_iff_ne.mpr c10; have c10b1 : (a0.toList != ([] : List UInt8)) = true := bne_iff_ne.mpr c10; obtain rfl := Option.some.inj H; go_wp2
     go_ret
     exact ⟨tS_, by repeat (first | exact Drawn0.refl _ | apply Drawn0.step)⟩

end Go.Proofs.Ytgnahbjpockdmab.Q
