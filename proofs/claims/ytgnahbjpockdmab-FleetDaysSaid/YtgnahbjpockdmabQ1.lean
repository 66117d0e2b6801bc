-- PRINTED by print.py out of the translation. Not trusted: Lean checks it.
import Derived.Test.YtgnahbjpockdmabPrs
import Derived.Test.YtgnahbjpockdmabQ0
namespace Go.Proofs.Ytgnahbjpockdmab.Q
open Go.RowKit Go.Proofs.YtgnahbjpockdmabPrs Go.Proofs.YtgnahbjpockdmabOwn Go.Proofs.YtgnahbjpockdmabW.PrintWords Go.Proofs.YtgnahbjpockdmabW.PrintLast Go.Proofs.YtgnahbjpockdmabW.PrintMore
attribute [local go_sem] max2_int min2_int max_two min_two max_three min_three max_four min_four   -- for this text's walks alone
set_option linter.unusedVariables false
set_option linter.unusedSimpArgs false

theorem eqA37 (d : Nat) (w : World) (x0 y0 : Int) :
    (Op.equalIn (d + 2) 37 (.agg #[.int .u64 x0]) (.agg #[.int .u64 y0])).run Try.prog w = .ok (x0 == y0) w := by
  refine eqA_of Try.underlying37 (by kernel_rfl) ?_; exact eqf_last (by rfl) (by go_simp; rfl) (by go_simp; rfl) (by go_simp)
end Go.Proofs.Ytgnahbjpockdmab.Q
namespace Go.Proofs.Ytgnahbjpockdmab.Q
open Go.RowKit Go.Proofs.YtgnahbjpockdmabPrs Go.Proofs.YtgnahbjpockdmabOwn Go.Proofs.YtgnahbjpockdmabW.PrintWords Go.Proofs.YtgnahbjpockdmabW.PrintLast Go.Proofs.YtgnahbjpockdmabW.PrintMore
attribute [local go_sem] max2_int min2_int max_two min_two max_three min_three max_four min_four   -- for this text's walks alone
set_option linter.unusedVariables false
set_option linter.unusedSimpArgs false

theorem eqA49 (d : Nat) (w : World) (x0 y0 : Int) (x1 y1 : Int) (x2 y2 : Int) (x3 y3 : Int) (x4 y4 : Int) (x5 y5 : Int) :
    (Op.equalIn (d + 2) 49 (.agg #[.int .i64 x0, .int .i64 x1, .int .i64 x2, .int .i64 x3, .int .i64 x4, .int .i64 x5]) (.agg #[.int .i64 y0, .int .i64 y1, .int .i64 y2, .int .i64 y3, .int .i64 y4, .int .i64 y5])).run Try.prog w = .ok (x0 == y0 && (x1 == y1 && (x2 == y2 && (x3 == y3 && (x4 == y4 && (x5 == y5)))))) w := by
  refine eqA_of Try.underlying49 (by kernel_rfl) ?_; refine eqf_cons (by rfl) (by go_simp; rfl) (by go_simp; rfl) (by go_simp) ?_; refine eqf_cons (by rfl) (by go_simp; rfl) (by go_simp; rfl) (by go_simp) ?_; refine eqf_cons (by rfl) (by go_simp; rfl) (by go_simp; rfl) (by go_simp) ?_; refine eqf_cons (by rfl) (by go_simp; rfl) (by go_simp; rfl) (by go_simp) ?_; refine eqf_cons (by rfl) (by go_simp; rfl) (by go_simp; rfl) (by go_simp) ?_; exact eqf_last (by rfl) (by go_simp; rfl) (by go_simp; rfl) (by go_simp)
end Go.Proofs.Ytgnahbjpockdmab.Q
namespace Go.Proofs.Ytgnahbjpockdmab.Q
open Go.RowKit Go.Proofs.YtgnahbjpockdmabPrs Go.Proofs.YtgnahbjpockdmabOwn Go.Proofs.YtgnahbjpockdmabW.PrintWords Go.Proofs.YtgnahbjpockdmabW.PrintLast Go.Proofs.YtgnahbjpockdmabW.PrintMore
attribute [local go_sem] max2_int min2_int max_two min_two max_three min_three max_four min_four   -- for this text's walks alone
set_option linter.unusedVariables false
set_option linter.unusedSimpArgs false

/-! ### hinterlandlaw14_large: function 6 -/
def hinterlandlaw14_large.l0 : Nat → List (S52) → List (S52) → Int → Int → List Int → List Int → Int → Int → Int → Int → List (S49) → Option (Bool)
  | 0, _, _, _, _, _, _, _, _, _, _, _ => none
  | k + 1, x0, x7, x8, x9, x102000, x102001, x102002, x102003, x102004, x102005, x102006 => if x9 < x8 then (if 0 ≤ x9 then (if x9 < (x7.length : Int) then (if (((rd_T52 x7 x9).f0).size : Int) > 500 then (some true) else (hinterlandlaw14_large.l0 k x0 x7 x8 (wrap64 (x9 + 1)) x102000 x102001 x102002 x102003 x102004 x102005 x102006)) else (none)) else (none)) else (if (x0.length : Int) > 500 then (some true) else (if (x102000.length : Int) > 500 then (some true) else (if (x102001.length : Int) > 500 then (some true) else (some (decide ((x102006.length : Int) > 500))))))
def hinterlandlaw14_large.f (k : Nat) (l0 : List (S52)) (l1_0 : List Int) (l1_1 : List Int) (a1_2 : Int) (a1_3 : Int) (a1_4 : Int) (a1_5 : Int) (l1_6 : List (S49)) : Option (Bool) := hinterlandlaw14_large.l0 k l0 l0 (l0.length : Int) 0 l1_0 l1_1 a1_2 a1_3 a1_4 a1_5 l1_6
theorem hinterlandlaw14_large.mono_l : ∀ k, (∀ y0 y1 y2 y3 y4 y5 y6 y7 y8 y9 y10, LeO (hinterlandlaw14_large.l0 k y0 y1 y2 y3 y4 y5 y6 y7 y8 y9 y10) (hinterlandlaw14_large.l0 (k + 1) y0 y1 y2 y3 y4 y5 y6 y7 y8 y9 y10))
  | 0 => fun _ _ _ _ _ _ _ _ _ _ _ r h => by simp [hinterlandlaw14_large.l0] at h
  | k + 1 => by
    have ih0 := hinterlandlaw14_large.mono_l k
    · intro y0 y1 y2 y3 y4 y5 y6 y7 y8 y9 y10
      unfold hinterlandlaw14_large.l0
      repeat' first
      | (with_reducible first | apply ih0 | exact LeO.refl _ | exact LeO.none _ | refine LeO.ite ?_ ?_ | refine LeO.bind ?_ (fun _ => ?_))
theorem hinterlandlaw14_large.mono : ∀ a0 a1 a2 a3 a4 a5 a6 a7 k, LeO (hinterlandlaw14_large.f k a0 a1 a2 a3 a4 a5 a6 a7) (hinterlandlaw14_large.f (k + 1) a0 a1 a2 a3 a4 a5 a6 a7) := by
  intro a0 a1 a2 a3 a4 a5 a6 a7 k; have ih0 := hinterlandlaw14_large.mono_l k
  unfold hinterlandlaw14_large.f
  repeat' first
      | (with_reducible first | apply ih0 | exact LeO.refl _ | exact LeO.none _ | refine LeO.ite ?_ ?_ | refine LeO.bind ?_ (fun _ => ?_))
set_option maxHeartbeats 8000000 in
set_option maxRecDepth 100000 in
theorem hinterlandlaw14_large.calls (k : Nat) (A0 : Option Addr) (c0 : Nat) (l0 : List (S52)) (A1_0 : Option Addr) (c1_0 : Nat) (l1_0 : List Int) (A1_1 : Option Addr) (c1_1 : Nat) (l1_1 : List Int) (a1_2 : Int) (a1_3 : Int) (a1_4 : Int) (a1_5 : Int) (A1_6 : Option Addr) (c1_6 : Nat) (l1_6 : List (S49)) (r : Bool) (w : World) (hr0 : Kd.C k52 w A0 l0.length l0) (hc0 : l0.length ≤ c0) (hr1_0 : Kd.C (Kd.int .i64) w A1_0 l1_0.length l1_0) (hc1_0 : l1_0.length ≤ c1_0) (hr1_1 : Kd.C (Kd.int .i64) w A1_1 l1_1.length l1_1) (hc1_1 : l1_1.length ≤ c1_1) (hr1_6 : Kd.C k49 w A1_6 l1_6.length l1_6) (hc1_6 : l1_6.length ≤ c1_6) (h : hinterlandlaw14_large.f k l0 l1_0 l1_1 a1_2 a1_3 a1_4 a1_5 l1_6 = some r) :
    Calls Try.prog 6 #[.slice A0 l0.length c0, .agg #[.slice A1_0 l1_0.length c1_0, .slice A1_1 l1_1.length c1_1, .int .i64 a1_2, .int .i64 a1_3, .int .i64 a1_4, .int .i64 a1_5, .slice A1_6 l1_6.length c1_6]] w fun e w' => e = .returned (.bool r) ∧ Below w.heap.size w w' := by
 have hu26 := Try.underlying26; have hu52 := Try.underlying52; have HR0 := Aside0.mk hr0; have HC0 := Aside0.mk hc0; clear hr0 hc0; have HR1_0 := Aside0.mk hr1_0; have HC1_0 := Aside0.mk hc1_0; clear hr1_0 hc1_0; have HR1_1 := Aside0.mk hr1_1; have HC1_1 := Aside0.mk hc1_1; clear hr1_1 hc1_1; have HR1_6 := Aside0.mk hr1_6; have HC1_6 := Aside0.mk hc1_6; clear hr1_6 hc1_6; have HB := Aside0.mk (Below.refl w.heap.size w); have H : (hinterlandlaw14_large.l0 k l0 l0 (l0.length : Int) 0 l1_0 l1_1 a1_2 a1_3 a1_4 a1_5 l1_6) = some r := h; clear h; have H' := Aside0.mk H; clear H
 go_enter Try.func6, Try.ntmps6
 go_wp2_with (first | ((with_reducible refine gate_dst (N := 3) rfl ?_); (try (refine gate_guard (by rfl) ?_; dsimp only)); refine bx_ (N := 3) (cs := #[.slice A1_0 l1_0.length c1_0, .slice A1_1 l1_1.length c1_1, .int .i64 a1_2, .int .i64 a1_3, .int .i64 a1_4, .int .i64 a1_5, .slice A1_6 l1_6.length c1_6]) (t := 26) ?_; intro gb101 hg w3 hbox hb; have BK101 := Aside0.mk (hbox); have GW101 := Aside0.mk ((dS_ hg (dL_ HB) : w.heap.size ≤ gb101)); have GE101 := GW101; replace HB := Aside0.mk (below_step (dL_ HB) hb); clear hb hbox hg))
 go_loopg [9] k (fun kq v9 w' => ∃ (x9_1 : Int), v9 = .int .i64 x9_1 ∧ Aside0 (hinterlandlaw14_large.l0 kq l0 l0 (l0.length : Int) x9_1 l1_0 l1_1 a1_2 a1_3 a1_4 a1_5 l1_6 = some r) ∧ Aside0 (kq ≤ k) ∧ Aside0 (w'.heap[gb101]? = some (.cells #[(.slice A1_0 l1_0.length c1_0), (.slice A1_1 l1_1.length c1_1), .int .i64 a1_2, .int .i64 a1_3, .int .i64 a1_4, .int .i64 a1_5, (.slice A1_6 l1_6.length c1_6)] 26 (0, 0))) ∧ Aside0 (Below w.heap.size w w'))
 case atStart => exact ⟨(0), tS_, H', ⟨Nat.le_refl _⟩, ⟨dB_ BK101⟩, ⟨dL1_ HB GE101⟩⟩
 case round =>
  clear H'; obtain ⟨x9_1, rfl, HA, HK1, BK101, HB⟩ := hrel
  cases gk with
  | zero => exact absurd HA.out (by simp [hinterlandlaw14_large.l0])
  | succ k1 =>
   have H := HA.out; clear HA; simp only [hinterlandlaw14_large.l0] at H
   by_cases c4 : x9_1 < (l0.length : Int)
   ·rw [if_pos c4] at H; have c4b0 : decide (x9_1 < (l0.length : Int)) = true := decide_eq_true c4; clear c4
    by_cases c5 : 0 ≤ x9_1
    ·rw [if_pos c5] at H; have c5b0 : decide (0 ≤ x9_1) = true := decide_eq_true c5; clear c5
     by_cases c6 : x9_1 < (l0.length : Int)
     ·rw [if_pos c6] at H; have c6b0 : decide (x9_1 < (l0.length : Int)) = true := decide_eq_true c6; clear c6
      by_cases c7 : (((rd_T52 l0 x9_1).f0).size : Int) > 500
      ·rw [if_pos c7] at H; have c7b0 : decide (500 < (((rd_T52 l0 x9_1).f0).size : Int)) = true := decide_eq_true c7; have c7b1 : decide (500 < ((rd_T52 l0 x9_1).f0).size) = true := decide_eq_true (by omega); clear c7; obtain rfl := Option.some.inj H; have p102 : 0 ≤ (x9_1 : Int) := of_decide_eq_true tW_; have q102 : x9_1 < (l0.length : Int) := of_decide_eq_true tW_; obtain ⟨ad102, e102, hx102_0, hx102_1, hx102_2, hx102_3, hx102_4, hx102_5, hx102_6, hx102_7, hx102_8, hx102_9, hx102_10, hx102_11, hx102_12, hx102_13⟩ := at_T52 HR0.out x9_1 p102 q102; cases e102; replace hx102_0 := bc_ HB hx102_0; replace hx102_1 := bc_ HB hx102_1; replace hx102_2 := bc_ HB hx102_2; replace hx102_3 := bc_ HB hx102_3; replace hx102_4 := bc_ HB hx102_4; replace hx102_5 := bc_ HB hx102_5; replace hx102_6 := bc_ HB hx102_6; replace hx102_7 := bc_ HB hx102_7; replace hx102_8 := bc_ HB hx102_8; replace hx102_9 := bc_ HB hx102_9; replace hx102_10 := bc_ HB hx102_10; replace hx102_11 := bc_ HB hx102_11; replace hx102_12 := bc_ HB hx102_12; replace hx102_13 := bc_ HB hx102_13; replace p102 := eq_true p102; replace q102 := eq_true q102
       go_wp2_with (first | ((with_reducible refine gate_dst (N := 6) rfl ?_); (try (refine gate_guard (by rfl) ?_; dsimp only)); refine bx_ (N := 6) (cs := #[.string (⟨#[]⟩ : ByteArray), .int .i64 0, .int .i64 0, .int .i64 0, .int .i64 0, .int .i64 0, .int .i64 0, .int .i64 0, .int .i64 0, .int .i64 0, .int .i64 0, .int .i64 0, .int .i64 0, .bool false]) (t := 52) ?_; intro gb103 hg w8 hbox hb; have BK103 := Aside0.mk (hbox); have GW103 := Aside0.mk ((dS_ hg (dL1_ HB GE101) : w.heap.size ≤ gb103)); have GE103 := GW103; replace HB := Aside0.mk (below_step (dL1_ HB GE101) hb); have NB101_103 := nb_ hg BK101; have NB103_101 := nc_ hg BK101; replace BK101 := bk_ BK101 hb; clear hb hbox hg; have hnb9 := NB103_101.out; have hnc9 := NB101_103.out; obtain ⟨hcz10_0, hcz10_1, hcz10_2, hcz10_3, hcz10_4, hcz10_5, hcz10_6, hcz10_7, hcz10_8, hcz10_9, hcz10_10, hcz10_11, hcz10_12, hcz10_13, hfz10_0, hfz10_1, hfz10_2, hfz10_3, hfz10_4, hfz10_5, hfz10_6, hfz10_7, hfz10_8, hfz10_9, hfz10_10, hfz10_11, hfz10_12, hfz10_13⟩ := cs14_ BK103.out))
       go_ret
       exact ⟨tE_, dL2_ HB GE101 GE103⟩
      ·rw [if_neg c7] at H; have c7b0 : decide (500 < (((rd_T52 l0 x9_1).f0).size : Int)) = false := decide_eq_false c7; have c7b1 : decide (500 < ((rd_T52 l0 x9_1).f0).size) = false := decide_eq_false (by omega); clear c7; have H' := Aside0.mk H; clear H; have p102 : 0 ≤ (x9_1 : Int) := of_decide_eq_true tW_; have q102 : x9_1 < (l0.length : Int) := of_decide_eq_true tW_; obtain ⟨ad102, e102, hx102_0, hx102_1, hx102_2, hx102_3, hx102_4, hx102_5, hx102_6, hx102_7, hx102_8, hx102_9, hx102_10, hx102_11, hx102_12, hx102_13⟩ := at_T52 HR0.out x9_1 p102 q102; cases e102; replace hx102_0 := bc_ HB hx102_0; replace hx102_1 := bc_ HB hx102_1; replace hx102_2 := bc_ HB hx102_2; replace hx102_3 := bc_ HB hx102_3; replace hx102_4 := bc_ HB hx102_4; replace hx102_5 := bc_ HB hx102_5; replace hx102_6 := bc_ HB hx102_6; replace hx102_7 := bc_ HB hx102_7; replace hx102_8 := bc_ HB hx102_8; replace hx102_9 := bc_ HB hx102_9; replace hx102_10 := bc_ HB hx102_10; replace hx102_11 := bc_ HB hx102_11; replace hx102_12 := bc_ HB hx102_12; replace hx102_13 := bc_ HB hx102_13; replace p102 := eq_true p102; replace q102 := eq_true q102
       go_wp2_with (first | ((with_reducible refine gate_dst (N := 6) rfl ?_); (try (refine gate_guard (by rfl) ?_; dsimp only)); refine bx_ (N := 6) (cs := #[.string (⟨#[]⟩ : ByteArray), .int .i64 0, .int .i64 0, .int .i64 0, .int .i64 0, .int .i64 0, .int .i64 0, .int .i64 0, .int .i64 0, .int .i64 0, .int .i64 0, .int .i64 0, .int .i64 0, .bool false]) (t := 52) ?_; intro gb103 hg w11 hbox hb; have BK103 := Aside0.mk (hbox); have GW103 := Aside0.mk ((dS_ hg (dL1_ HB GE101) : w.heap.size ≤ gb103)); have GE103 := GW103; replace HB := Aside0.mk (below_step (dL1_ HB GE101) hb); have NB101_103 := nb_ hg BK101; have NB103_101 := nc_ hg BK101; replace BK101 := bk_ BK101 hb; clear hb hbox hg; have hnb12 := NB103_101.out; have hnc12 := NB101_103.out; obtain ⟨hcz13_0, hcz13_1, hcz13_2, hcz13_3, hcz13_4, hcz13_5, hcz13_6, hcz13_7, hcz13_8, hcz13_9, hcz13_10, hcz13_11, hcz13_12, hcz13_13, hfz13_0, hfz13_1, hfz13_2, hfz13_3, hfz13_4, hfz13_5, hfz13_6, hfz13_7, hfz13_8, hfz13_9, hfz13_10, hfz13_11, hfz13_12, hfz13_13⟩ := cs14_ BK103.out))
       go_roundg k1
       case measure => have := HK1.out; omega
       case rel => exact ⟨(wrap64 (x9_1 + 1)), tS_, H', ⟨by have := HK1.out; omega⟩, ⟨dF14_ BK101 NB101_103⟩, ⟨dL2_ HB GE101 GE103⟩⟩
     ·rw [if_neg c6] at H; exact absurd H (by simp)
    ·rw [if_neg c5] at H; exact absurd H (by simp)
   ·rw [if_neg c4] at H; have c4b0 : decide (x9_1 < (l0.length : Int)) = false := decide_eq_false c4; clear c4
    by_cases c14 : (l0.length : Int) > 500
    ·rw [if_pos c14] at H; have c14b0 : decide (500 < (l0.length : Int)) = true := decide_eq_true c14; have c14b1 : decide (500 < l0.length) = true := decide_eq_true (by omega); clear c14; obtain rfl := Option.some.inj H; go_wp2
     go_ret
     exact ⟨tE_, dL1_ HB GE101⟩
    ·rw [if_neg c14] at H; have c14b0 : decide (500 < (l0.length : Int)) = false := decide_eq_false c14; have c14b1 : decide (500 < l0.length) = false := decide_eq_false (by omega); clear c14
     by_cases c15 : (l1_0.length : Int) > 500
     ·rw [if_pos c15] at H; have c15b0 : decide (500 < (l1_0.length : Int)) = true := decide_eq_true c15; have c15b1 : decide (500 < l1_0.length) = true := decide_eq_true (by omega); clear c15; obtain rfl := Option.some.inj H; obtain ⟨hcz16_0, hcz16_1, hcz16_2, hcz16_3, hcz16_4, hcz16_5, hcz16_6, hfz16_0, hfz16_1, hfz16_2, hfz16_3, hfz16_4, hfz16_5, hfz16_6⟩ := cs7_ BK101.out; go_wp2
      go_ret
      exact ⟨tE_, dL1_ HB GE101⟩
     ·rw [if_neg c15] at H; have c15b0 : decide (500 < (l1_0.length : Int)) = false := decide_eq_false c15; have c15b1 : decide (500 < l1_0.length) = false := decide_eq_false (by omega); clear c15
      by_cases c17 : (l1_1.length : Int) > 500
      ·rw [if_pos c17] at H; have c17b0 : decide (500 < (l1_1.length : Int)) = true := decide_eq_true c17; have c17b1 : decide (500 < l1_1.length) = true := decide_eq_true (by omega); clear c17; obtain rfl := Option.some.inj H; obtain ⟨hcz18_0, hcz18_1, hcz18_2, hcz18_3, hcz18_4, hcz18_5, hcz18_6, hfz18_0, hfz18_1, hfz18_2, hfz18_3, hfz18_4, hfz18_5, hfz18_6⟩ := cs7_ BK101.out; go_wp2
       go_ret
       exact ⟨tE_, dL1_ HB GE101⟩
      ·rw [if_neg c17] at H; have c17b0 : decide (500 < (l1_1.length : Int)) = false := decide_eq_false c17; have c17b1 : decide (500 < l1_1.length) = false := decide_eq_false (by omega); clear c17; obtain rfl := Option.some.inj H; obtain ⟨hcz19_0, hcz19_1, hcz19_2, hcz19_3, hcz19_4, hcz19_5, hcz19_6, hfz19_0, hfz19_1, hfz19_2, hfz19_3, hfz19_4, hfz19_5, hfz19_6⟩ := cs7_ BK101.out; go_wp2
       go_ret
       exact ⟨tE_, dL1_ HB GE101⟩

end Go.Proofs.Ytgnahbjpockdmab.Q
namespace Go.Proofs.Ytgnahbjpockdmab.Q
open Go.RowKit Go.Proofs.YtgnahbjpockdmabPrs Go.Proofs.YtgnahbjpockdmabOwn Go.Proofs.YtgnahbjpockdmabW.PrintWords Go.Proofs.YtgnahbjpockdmabW.PrintLast Go.Proofs.YtgnahbjpockdmabW.PrintMore
attribute [local go_sem] max2_int min2_int max_two min_two max_three min_three max_four min_four   -- for this text's walks alone
set_option linter.unusedVariables false
set_option linter.unusedSimpArgs false

/-! ### fleet_fits: function 22 -/
mutual
def fleet_fits.l0 : Nat → List (S52) → List Int → List Int → Int → Int → ByteArray → Int → Int → Int → Int → Int → Int → Int → Int → Int → Int → Int → Int → Bool → Option (Int)
  | 0, _, _, _, _, _, _, _, _, _, _, _, _, _, _, _, _, _, _, _ => none
  | k + 1, x0, x1, x14, x15, x16, x107000, x107001, x107002, x107003, x107004, x107005, x107006, x107007, x107008, x107009, x107010, x107011, x107012, x107013 => if x16 < x15 then (if 0 ≤ x16 then (if x16 < (x14.length : Int) then (if 0 ≤ (rd x14 x16) then (if (rd x14 x16) < (x0.length : Int) then (if ((rd_T52 x0 (rd x14 x16)).f1) = x107001 then (fleet_fits.l0 k x0 x1 x14 x15 (wrap64 (x16 + 1)) x107000 x107001 x107002 x107003 x107004 x107005 x107006 x107007 x107008 x107009 x107010 x107011 x107012 x107013) else (some 8)) else (none)) else (none)) else (none)) else (none)) else (if x107001 = 0 then (if x107003 = 0 then (fleet_fits.j1 k true) else (fleet_fits.j1 k false)) else (fleet_fits.j1 k (decide ((x1.length : Int) > 1))))
def fleet_fits.j1 : Nat → Bool → Option (Int)
  | 0, _ => none
  | k + 1, x46 => if x46 = true then (some 8) else (some 0)
end
def fleet_fits.f (k : Nat) (l0 : List (S52)) (l1 : List Int) : Option (Int) := if 0 < (l1.length : Int) then (if 0 ≤ (rd l1 0) then (if (rd l1 0) < (l0.length : Int) then (fleet_fits.l0 k l0 l1 l1 (l1.length : Int) 0 ((rd_T52 l0 (rd l1 0)).f0) ((rd_T52 l0 (rd l1 0)).f1) ((rd_T52 l0 (rd l1 0)).f2) ((rd_T52 l0 (rd l1 0)).f3) ((rd_T52 l0 (rd l1 0)).f4) ((rd_T52 l0 (rd l1 0)).f5) ((rd_T52 l0 (rd l1 0)).f6) ((rd_T52 l0 (rd l1 0)).f7) ((rd_T52 l0 (rd l1 0)).f8) ((rd_T52 l0 (rd l1 0)).f9) ((rd_T52 l0 (rd l1 0)).f10) ((rd_T52 l0 (rd l1 0)).f11) ((rd_T52 l0 (rd l1 0)).f12) ((rd_T52 l0 (rd l1 0)).f13)) else (none)) else (none)) else (none)
theorem fleet_fits.mono_l : ∀ k, (∀ y0 y1 y2 y3 y4 y5 y6 y7 y8 y9 y10 y11 y12 y13 y14 y15 y16 y17 y18, LeO (fleet_fits.l0 k y0 y1 y2 y3 y4 y5 y6 y7 y8 y9 y10 y11 y12 y13 y14 y15 y16 y17 y18) (fleet_fits.l0 (k + 1) y0 y1 y2 y3 y4 y5 y6 y7 y8 y9 y10 y11 y12 y13 y14 y15 y16 y17 y18)) ∧ (∀ y0, LeO (fleet_fits.j1 k y0) (fleet_fits.j1 (k + 1) y0))
  | 0 => ⟨fun _ _ _ _ _ _ _ _ _ _ _ _ _ _ _ _ _ _ _ r h => by simp [fleet_fits.l0] at h, fun _ r h => by simp [fleet_fits.j1] at h⟩
  | k + 1 => by
    obtain ⟨ih0, ih1⟩ := fleet_fits.mono_l k; refine ⟨?_, ?_⟩
    · intro y0 y1 y2 y3 y4 y5 y6 y7 y8 y9 y10 y11 y12 y13 y14 y15 y16 y17 y18
      unfold fleet_fits.l0
      repeat' first
      | (with_reducible first | apply ih0 | apply ih1 | exact LeO.refl _ | exact LeO.none _ | refine LeO.ite ?_ ?_ | refine LeO.bind ?_ (fun _ => ?_))
    · intro y0
      unfold fleet_fits.j1
      repeat' first
      | (with_reducible first | apply ih0 | apply ih1 | exact LeO.refl _ | exact LeO.none _ | refine LeO.ite ?_ ?_ | refine LeO.bind ?_ (fun _ => ?_))
theorem fleet_fits.mono : ∀ a0 a1 k, LeO (fleet_fits.f k a0 a1) (fleet_fits.f (k + 1) a0 a1) := by
  intro a0 a1 k; obtain ⟨ih0, ih1⟩ := fleet_fits.mono_l k
  unfold fleet_fits.f
  repeat' first
      | (with_reducible first | apply ih0 | apply ih1 | exact LeO.refl _ | exact LeO.none _ | refine LeO.ite ?_ ?_ | refine LeO.bind ?_ (fun _ => ?_))
set_option maxHeartbeats 8000000 in
set_option maxRecDepth 100000 in
theorem fleet_fits.calls (k : Nat) (A0 : Option Addr) (c0 : Nat) (l0 : List (S52)) (A1 : Option Addr) (c1 : Nat) (l1 : List Int) (r : Int) (w : World) (hr0 : Kd.C k52 w A0 l0.length l0) (hc0 : l0.length ≤ c0) (hr1 : Kd.C (Kd.int .i64) w A1 l1.length l1) (hc1 : l1.length ≤ c1) (h : fleet_fits.f k l0 l1 = some r) :
    Calls Try.prog 22 #[.slice A0 l0.length c0, .slice A1 l1.length c1] w fun e w' => e = .returned (.int .i64 r) ∧ Below w.heap.size w w' := by
 have hu52 := Try.underlying52; have HR0 := Aside0.mk hr0; have HC0 := Aside0.mk hc0; clear hr0 hc0; have HR1 := Aside0.mk hr1; have HC1 := Aside0.mk hc1; clear hr1 hc1; have HB := Aside0.mk (Below.refl w.heap.size w); have H : (if 0 < (l1.length : Int) then (if 0 ≤ (rd l1 0) then (if (rd l1 0) < (l0.length : Int) then (fleet_fits.l0 k l0 l1 l1 (l1.length : Int) 0 ((rd_T52 l0 (rd l1 0)).f0) ((rd_T52 l0 (rd l1 0)).f1) ((rd_T52 l0 (rd l1 0)).f2) ((rd_T52 l0 (rd l1 0)).f3) ((rd_T52 l0 (rd l1 0)).f4) ((rd_T52 l0 (rd l1 0)).f5) ((rd_T52 l0 (rd l1 0)).f6) ((rd_T52 l0 (rd l1 0)).f7) ((rd_T52 l0 (rd l1 0)).f8) ((rd_T52 l0 (rd l1 0)).f9) ((rd_T52 l0 (rd l1 0)).f10) ((rd_T52 l0 (rd l1 0)).f11) ((rd_T52 l0 (rd l1 0)).f12) ((rd_T52 l0 (rd l1 0)).f13)) else (none)) else (none)) else (none)) = some r := h; clear h
 by_cases c3 : 0 < (l1.length : Int)
 ·rw [if_pos c3] at H; have c3b0 : decide (0 < (l1.length : Int)) = true := decide_eq_true c3; have c3b1 : decide (0 < l1.length) = true := decide_eq_true (by omega); clear c3
  by_cases c4 : 0 ≤ (rd l1 0)
  ·rw [if_pos c4] at H; have c4b0 : decide (0 ≤ (rd l1 0)) = true := decide_eq_true c4; clear c4
   by_cases c5 : (rd l1 0) < (l0.length : Int)
   ·rw [if_pos c5] at H; have c5b0 : decide ((rd l1 0) < (l0.length : Int)) = true := decide_eq_true c5; clear c5; have H' := Aside0.mk H; clear H; have p104 : 0 ≤ (0 : Int) := (by omega); have q104 : 0 < (l1.length : Int) := of_decide_eq_true tW_; obtain ⟨ad104, e104, hx104_0⟩ := Kd.at_int HR1.out 0 p104 q104; cases e104; have qi104 : (0 < l1.length) = True := eq_true (by omega); (try rw [show ((0 : Int)).toNat = 0 from rfl] at hx104_0); (try rw [Addr.add_zero'] at hx104_0); replace p104 := eq_true p104; replace q104 := eq_true q104; have p105 : 0 ≤ ((rd l1 0) : Int) := of_decide_eq_true tW_; have q105 : (rd l1 0) < (l0.length : Int) := of_decide_eq_true tW_; obtain ⟨ad105, e105, hx105_0, hx105_1, hx105_2, hx105_3, hx105_4, hx105_5, hx105_6, hx105_7, hx105_8, hx105_9, hx105_10, hx105_11, hx105_12, hx105_13⟩ := at_T52 HR0.out (rd l1 0) p105 q105; cases e105; replace p105 := eq_true p105; replace q105 := eq_true q105
    go_enter Try.func22, Try.ntmps22
    go_wp2_with (first | ((with_reducible refine gate_dst (N := 5) rfl ?_); (try (refine gate_guard (by rfl) ?_; dsimp only)); refine bx_ (N := 5) (cs := #[.string (⟨#[]⟩ : ByteArray), .int .i64 0, .int .i64 0, .int .i64 0, .int .i64 0, .int .i64 0, .int .i64 0, .int .i64 0, .int .i64 0, .int .i64 0, .int .i64 0, .int .i64 0, .int .i64 0, .bool false]) (t := 52) ?_; intro gb106 hg w6 hbox hb; have BK106 := Aside0.mk (hbox); have GW106 := Aside0.mk ((dS_ hg (dL_ HB) : w.heap.size ≤ gb106)); have GE106 := GW106; replace HB := Aside0.mk (below_step (dL_ HB) hb); clear hb hbox hg; obtain ⟨hcz7_0, hcz7_1, hcz7_2, hcz7_3, hcz7_4, hcz7_5, hcz7_6, hcz7_7, hcz7_8, hcz7_9, hcz7_10, hcz7_11, hcz7_12, hcz7_13, hfz7_0, hfz7_1, hfz7_2, hfz7_3, hfz7_4, hfz7_5, hfz7_6, hfz7_7, hfz7_8, hfz7_9, hfz7_10, hfz7_11, hfz7_12, hfz7_13⟩ := cs14_ BK106.out))
    repeat (go_quiet (first | ((with_reducible refine gate_dst (N := 5) rfl ?_); (try (refine gate_guard (by rfl) ?_; dsimp only)); refine bx_ (N := 5) (cs := #[.string (⟨#[]⟩ : ByteArray), .int .i64 0, .int .i64 0, .int .i64 0, .int .i64 0, .int .i64 0, .int .i64 0, .int .i64 0, .int .i64 0, .int .i64 0, .int .i64 0, .int .i64 0, .int .i64 0, .bool false]) (t := 52) ?_; intro gb106 hg w6 hbox hb; have BK106 := Aside0.mk (hbox); have GW106 := Aside0.mk ((dS_ hg (dL_ HB) : w.heap.size ≤ gb106)); have GE106 := GW106; replace HB := Aside0.mk (below_step (dL_ HB) hb); clear hb hbox hg; obtain ⟨hcz7_0, hcz7_1, hcz7_2, hcz7_3, hcz7_4, hcz7_5, hcz7_6, hcz7_7, hcz7_8, hcz7_9, hcz7_10, hcz7_11, hcz7_12, hcz7_13, hfz7_0, hfz7_1, hfz7_2, hfz7_3, hfz7_4, hfz7_5, hfz7_6, hfz7_7, hfz7_8, hfz7_9, hfz7_10, hfz7_11, hfz7_12, hfz7_13⟩ := cs14_ BK106.out)); try go_wp2_with (first | ((with_reducible refine gate_dst (N := 5) rfl ?_); (try (refine gate_guard (by rfl) ?_; dsimp only)); refine bx_ (N := 5) (cs := #[.string (⟨#[]⟩ : ByteArray), .int .i64 0, .int .i64 0, .int .i64 0, .int .i64 0, .int .i64 0, .int .i64 0, .int .i64 0, .int .i64 0, .int .i64 0, .int .i64 0, .int .i64 0, .int .i64 0, .bool false]) (t := 52) ?_; intro gb106 hg w6 hbox hb; have BK106 := Aside0.mk (hbox); have GW106 := Aside0.mk ((dS_ hg (dL_ HB) : w.heap.size ≤ gb106)); have GE106 := GW106; replace HB := Aside0.mk (below_step (dL_ HB) hb); clear hb hbox hg; obtain ⟨hcz7_0, hcz7_1, hcz7_2, hcz7_3, hcz7_4, hcz7_5, hcz7_6, hcz7_7, hcz7_8, hcz7_9, hcz7_10, hcz7_11, hcz7_12, hcz7_13, hfz7_0, hfz7_1, hfz7_2, hfz7_3, hfz7_4, hfz7_5, hfz7_6, hfz7_7, hfz7_8, hfz7_9, hfz7_10, hfz7_11, hfz7_12, hfz7_13⟩ := cs14_ BK106.out)))
    go_loopg [16] k (fun kq v16 w' => ∃ (x16_1 : Int), v16 = .int .i64 x16_1 ∧ Aside0 (fleet_fits.l0 kq l0 l1 l1 (l1.length : Int) x16_1 ((rd_T52 l0 (rd l1 0)).f0) ((rd_T52 l0 (rd l1 0)).f1) ((rd_T52 l0 (rd l1 0)).f2) ((rd_T52 l0 (rd l1 0)).f3) ((rd_T52 l0 (rd l1 0)).f4) ((rd_T52 l0 (rd l1 0)).f5) ((rd_T52 l0 (rd l1 0)).f6) ((rd_T52 l0 (rd l1 0)).f7) ((rd_T52 l0 (rd l1 0)).f8) ((rd_T52 l0 (rd l1 0)).f9) ((rd_T52 l0 (rd l1 0)).f10) ((rd_T52 l0 (rd l1 0)).f11) ((rd_T52 l0 (rd l1 0)).f12) ((rd_T52 l0 (rd l1 0)).f13) = some r) ∧ Aside0 (kq ≤ k) ∧ Aside0 (w'.heap[gb106]? = some (.cells #[.string ((rd_T52 l0 (rd l1 0)).f0), .int .i64 ((rd_T52 l0 (rd l1 0)).f1), .int .i64 ((rd_T52 l0 (rd l1 0)).f2), .int .i64 ((rd_T52 l0 (rd l1 0)).f3), .int .i64 ((rd_T52 l0 (rd l1 0)).f4), .int .i64 ((rd_T52 l0 (rd l1 0)).f5), .int .i64 ((rd_T52 l0 (rd l1 0)).f6), .int .i64 ((rd_T52 l0 (rd l1 0)).f7), .int .i64 ((rd_T52 l0 (rd l1 0)).f8), .int .i64 ((rd_T52 l0 (rd l1 0)).f9), .int .i64 ((rd_T52 l0 (rd l1 0)).f10), .int .i64 ((rd_T52 l0 (rd l1 0)).f11), .int .i64 ((rd_T52 l0 (rd l1 0)).f12), .bool ((rd_T52 l0 (rd l1 0)).f13)] 52 (0, 0))) ∧ Aside0 (Below w.heap.size w w'))
    case atStart => exact ⟨(0), tS_, H', ⟨Nat.le_refl _⟩, ⟨dP14_ BK106⟩, ⟨dL1_ HB GE106⟩⟩
    case round =>
     clear H'; (try clear c1); (try clear c3); (try clear c3b0); (try clear c3b1); (try clear c4); (try clear c4b0); (try clear c5); (try clear c5b0); (try clear hcz7_0 hcz7_1 hcz7_10 hcz7_11 hcz7_12 hcz7_13 hcz7_2 hcz7_3 hcz7_4 hcz7_5 hcz7_6 hcz7_7 hcz7_8 hcz7_9 hfz7_0 hfz7_1 hfz7_10 hfz7_11 hfz7_12 hfz7_13 hfz7_2 hfz7_3 hfz7_4 hfz7_5 hfz7_6 hfz7_7 hfz7_8 hfz7_9); (try clear hx104_0); (try clear hx105_0); (try clear hx105_1); (try clear hx105_10); (try clear hx105_11); (try clear hx105_12); (try clear hx105_13); (try clear hx105_2); (try clear hx105_3); (try clear hx105_4); (try clear hx105_5); (try clear hx105_6); (try clear hx105_7); (try clear hx105_8); (try clear hx105_9); (try clear p104); (try clear p105); (try clear q104); (try clear q105); obtain ⟨x16_1, rfl, HA, HK1, BK106, HB⟩ := hrel
     cases gk with
     | zero => exact absurd HA.out (by simp [fleet_fits.l0])
     | succ k1 =>
      have H := HA.out; clear HA; simp only [fleet_fits.l0] at H
      by_cases c8 : x16_1 < (l1.length : Int)
      ·rw [if_pos c8] at H; have c8b0 : decide (x16_1 < (l1.length : Int)) = true := decide_eq_true c8; clear c8
       by_cases c9 : 0 ≤ x16_1
       ·rw [if_pos c9] at H; have c9b0 : decide (0 ≤ x16_1) = true := decide_eq_true c9; clear c9
        by_cases c10 : x16_1 < (l1.length : Int)
        ·rw [if_pos c10] at H; have c10b0 : decide (x16_1 < (l1.length : Int)) = true := decide_eq_true c10; clear c10
         by_cases c11 : 0 ≤ (rd l1 x16_1)
         ·rw [if_pos c11] at H; have c11b0 : decide (0 ≤ (rd l1 x16_1)) = true := decide_eq_true c11; clear c11
          by_cases c12 : (rd l1 x16_1) < (l0.length : Int)
          ·rw [if_pos c12] at H; have c12b0 : decide ((rd l1 x16_1) < (l0.length : Int)) = true := decide_eq_true c12; clear c12
           by_cases c13 : ((rd_T52 l0 (rd l1 x16_1)).f1) = ((rd_T52 l0 (rd l1 0)).f1)
           ·rw [if_pos c13] at H; have c13b0 : (((rd_T52 l0 (rd l1 x16_1)).f1) == ((rd_T52 l0 (rd l1 0)).f1)) = true := beq_iff_eq.mpr c13; have c13b1 : (((rd_T52 l0 (rd l1 x16_1)).f1) != ((rd_T52 l0 (rd l1 0)).f1)) = false := bne_eq_false_iff_eq.mpr c13; clear c13; have H' := Aside0.mk H; clear H; have p107 : 0 ≤ (x16_1 : Int) := of_decide_eq_true tW_; have q107 : x16_1 < (l1.length : Int) := of_decide_eq_true tW_; obtain ⟨ad107, e107, hx107_0⟩ := Kd.at_int HR1.out x16_1 p107 q107; obtain rfl : ad104 = ad107 := (by injection e107); replace hx107_0 := bc_ HB hx107_0; replace p107 := eq_true p107; replace q107 := eq_true q107; have p108 : 0 ≤ ((rd l1 x16_1) : Int) := of_decide_eq_true tW_; have q108 : (rd l1 x16_1) < (l0.length : Int) := of_decide_eq_true tW_; obtain ⟨ad108, e108, hx108_0, hx108_1, hx108_2, hx108_3, hx108_4, hx108_5, hx108_6, hx108_7, hx108_8, hx108_9, hx108_10, hx108_11, hx108_12, hx108_13⟩ := at_T52 HR0.out (rd l1 x16_1) p108 q108; obtain rfl : ad105 = ad108 := (by injection e108); replace hx108_0 := bc_ HB hx108_0; replace hx108_1 := bc_ HB hx108_1; replace hx108_2 := bc_ HB hx108_2; replace hx108_3 := bc_ HB hx108_3; replace hx108_4 := bc_ HB hx108_4; replace hx108_5 := bc_ HB hx108_5; replace hx108_6 := bc_ HB hx108_6; replace hx108_7 := bc_ HB hx108_7; replace hx108_8 := bc_ HB hx108_8; replace hx108_9 := bc_ HB hx108_9; replace hx108_10 := bc_ HB hx108_10; replace hx108_11 := bc_ HB hx108_11; replace hx108_12 := bc_ HB hx108_12; replace hx108_13 := bc_ HB hx108_13; replace p108 := eq_true p108; replace q108 := eq_true q108; obtain ⟨hcz14_0, hcz14_1, hcz14_2, hcz14_3, hcz14_4, hcz14_5, hcz14_6, hcz14_7, hcz14_8, hcz14_9, hcz14_10, hcz14_11, hcz14_12, hcz14_13, hfz14_0, hfz14_1, hfz14_2, hfz14_3, hfz14_4, hfz14_5, hfz14_6, hfz14_7, hfz14_8, hfz14_9, hfz14_10, hfz14_11, hfz14_12, hfz14_13⟩ := cs14_ BK106.out; go_wp2
            repeat (go_quiet (fail); try go_wp2)
            go_roundg k1
            case measure => have := HK1.out; omega
            case rel => exact ⟨(wrap64 (x16_1 + 1)), tS_, H', ⟨by have := HK1.out; omega⟩, ⟨dB_ BK106⟩, ⟨dL1_ HB GE106⟩⟩
           ·rw [if_neg c13] at H; have c13b0 : (((rd_T52 l0 (rd l1 x16_1)).f1) == ((rd_T52 l0 (rd l1 0)).f1)) = false := beq_eq_false_iff_ne.mpr c13; have c13b1 : (((rd_T52 l0 (rd l1 x16_1)).f1) != ((rd_T52 l0 (rd l1 0)).f1)) = true := bne_iff_ne.mpr c13; obtain rfl := Option.some.inj H; have p107 : 0 ≤ (x16_1 : Int) := of_decide_eq_true tW_; have q107 : x16_1 < (l1.length : Int) := of_decide_eq_true tW_; obtain ⟨ad107, e107, hx107_0⟩ := Kd.at_int HR1.out x16_1 p107 q107; obtain rfl : ad104 = ad107 := (by injection e107); replace hx107_0 := bc_ HB hx107_0; replace p107 := eq_true p107; replace q107 := eq_true q107; have p108 : 0 ≤ ((rd l1 x16_1) : Int) := of_decide_eq_true tW_; have q108 : (rd l1 x16_1) < (l0.length : Int) := of_decide_eq_true tW_; obtain ⟨ad108, e108, hx108_0, hx108_1, hx108_2, hx108_3, hx108_4, hx108_5, hx108_6, hx108_7, hx108_8, hx108_9, hx108_10, hx108_11, hx108_12, hx108_13⟩ := at_T52 HR0.out (rd l1 x16_1) p108 q108; obtain rfl : ad105 = ad108 := (by injection e108); replace hx108_0 := bc_ HB hx108_0; replace hx108_1 := bc_ HB hx108_1; replace hx108_2 := bc_ HB hx108_2; replace hx108_3 := bc_ HB hx108_3; replace hx108_4 := bc_ HB hx108_4; replace hx108_5 := bc_ HB hx108_5; replace hx108_6 := bc_ HB hx108_6; replace hx108_7 := bc_ HB hx108_7; replace hx108_8 := bc_ HB hx108_8; replace hx108_9 := bc_ HB hx108_9; replace hx108_10 := bc_ HB hx108_10; replace hx108_11 := bc_ HB hx108_11; replace hx108_12 := bc_ HB hx108_12; replace hx108_13 := bc_ HB hx108_13; replace p108 := eq_true p108; replace q108 := eq_true q108; obtain ⟨hcz15_0, hcz15_1, hcz15_2, hcz15_3, hcz15_4, hcz15_5, hcz15_6, hcz15_7, hcz15_8, hcz15_9, hcz15_10, hcz15_11, hcz15_12, hcz15_13, hfz15_0, hfz15_1, hfz15_2, hfz15_3, hfz15_4, hfz15_5, hfz15_6, hfz15_7, hfz15_8, hfz15_9, hfz15_10, hfz15_11, hfz15_12, hfz15_13⟩ := cs14_ BK106.out; go_wp2
            repeat (go_quiet (fail); try go_wp2)
            go_ret
            exact ⟨tE_, dL1_ HB GE106⟩
          ·rw [if_neg c12] at H; exact absurd H (by simp)
         ·rw [if_neg c11] at H; exact absurd H (by simp)
        ·rw [if_neg c10] at H; exact absurd H (by simp)
       ·rw [if_neg c9] at H; exact absurd H (by simp)
      ·rw [if_neg c8] at H; have c8b0 : decide (x16_1 < (l1.length : Int)) = false := decide_eq_false c8; clear c8; have HC16 := Aside0.mk H; clear H
       go_upto_region 8 with (fail)
       repeat (go_quiet (fail); go_upto_region 8 with (fail))
       go_cut [46] (fun v46 wc => ∃ (kq : Nat) (x46_15 : Bool), v46 = .bool x46_15 ∧ Aside0 (fleet_fits.j1 kq x46_15 = some r) ∧ Aside0 (kq ≤ k1) ∧ Aside0 (wc.heap[gb106]? = some (.cells #[.string ((rd_T52 l0 (rd l1 0)).f0), .int .i64 ((rd_T52 l0 (rd l1 0)).f1), .int .i64 ((rd_T52 l0 (rd l1 0)).f2), .int .i64 ((rd_T52 l0 (rd l1 0)).f3), .int .i64 ((rd_T52 l0 (rd l1 0)).f4), .int .i64 ((rd_T52 l0 (rd l1 0)).f5), .int .i64 ((rd_T52 l0 (rd l1 0)).f6), .int .i64 ((rd_T52 l0 (rd l1 0)).f7), .int .i64 ((rd_T52 l0 (rd l1 0)).f8), .int .i64 ((rd_T52 l0 (rd l1 0)).f9), .int .i64 ((rd_T52 l0 (rd l1 0)).f10), .int .i64 ((rd_T52 l0 (rd l1 0)).f11), .int .i64 ((rd_T52 l0 (rd l1 0)).f12), .bool ((rd_T52 l0 (rd l1 0)).f13)] 52 (0, 0))) ∧ Aside0 (Below w.heap.size w wc))
       case first =>
        have H := HC16.out; clear HC16
        by_cases c17 : ((rd_T52 l0 (rd l1 0)).f1) = 0
        ·rw [if_pos c17] at H; have c17b0 : (((rd_T52 l0 (rd l1 0)).f1) == 0) = true := beq_iff_eq.mpr c17; have c17b1 : (((rd_T52 l0 (rd l1 0)).f1) != 0) = false := bne_eq_false_iff_eq.mpr c17; clear c17
         (first | rw [c17b0] | (simp only [i64_w, i32_w]; rw [c17b0]) | skip)
         by_cases c18 : ((rd_T52 l0 (rd l1 0)).f3) = 0
         ·rw [if_pos c18] at H; have c18b0 : (((rd_T52 l0 (rd l1 0)).f3) == 0) = true := beq_iff_eq.mpr c18; have c18b1 : (((rd_T52 l0 (rd l1 0)).f3) != 0) = false := bne_eq_false_iff_eq.mpr c18; clear c18; have H' := Aside0.mk H; clear H; obtain ⟨hcz19_0, hcz19_1, hcz19_2, hcz19_3, hcz19_4, hcz19_5, hcz19_6, hcz19_7, hcz19_8, hcz19_9, hcz19_10, hcz19_11, hcz19_12, hcz19_13, hfz19_0, hfz19_1, hfz19_2, hfz19_3, hfz19_4, hfz19_5, hfz19_6, hfz19_7, hfz19_8, hfz19_9, hfz19_10, hfz19_11, hfz19_12, hfz19_13⟩ := cs14_ BK106.out; go_wp2
          repeat (go_quiet (fail); try go_wp2)
          go_meet
          case rel => exact ⟨_, (true), tS_, H', ⟨by have := HK1.out; first | omega | exact Nat.le_refl _⟩, ⟨dB_ BK106⟩, ⟨dL1_ HB GE106⟩⟩
         ·rw [if_neg c18] at H; have c18b0 : (((rd_T52 l0 (rd l1 0)).f3) == 0) = false := beq_eq_false_iff_ne.mpr c18; have c18b1 : (((rd_T52 l0 (rd l1 0)).f3) != 0) = true := bne_iff_ne.mpr c18; have H' := Aside0.mk H; clear H; obtain ⟨hcz20_0, hcz20_1, hcz20_2, hcz20_3, hcz20_4, hcz20_5, hcz20_6, hcz20_7, hcz20_8, hcz20_9, hcz20_10, hcz20_11, hcz20_12, hcz20_13, hfz20_0, hfz20_1, hfz20_2, hfz20_3, hfz20_4, hfz20_5, hfz20_6, hfz20_7, hfz20_8, hfz20_9, hfz20_10, hfz20_11, hfz20_12, hfz20_13⟩ := cs14_ BK106.out; go_wp2
          repeat (go_quiet (fail); try go_wp2)
          go_meet
          case rel => exact ⟨_, (false), tS_, H', ⟨by have := HK1.out; first | omega | exact Nat.le_refl _⟩, ⟨dB_ BK106⟩, ⟨dL1_ HB GE106⟩⟩
        ·rw [if_neg c17] at H; have c17b0 : (((rd_T52 l0 (rd l1 0)).f1) == 0) = false := beq_eq_false_iff_ne.mpr c17; have c17b1 : (((rd_T52 l0 (rd l1 0)).f1) != 0) = true := bne_iff_ne.mpr c17
         (first | rw [c17b0] | (simp only [i64_w, i32_w]; rw [c17b0]) | skip)
         have H' := Aside0.mk H; clear H; obtain ⟨hcz21_0, hcz21_1, hcz21_2, hcz21_3, hcz21_4, hcz21_5, hcz21_6, hcz21_7, hcz21_8, hcz21_9, hcz21_10, hcz21_11, hcz21_12, hcz21_13, hfz21_0, hfz21_1, hfz21_2, hfz21_3, hfz21_4, hfz21_5, hfz21_6, hfz21_7, hfz21_8, hfz21_9, hfz21_10, hfz21_11, hfz21_12, hfz21_13⟩ := cs14_ BK106.out; go_wp2
         repeat (go_quiet (fail); try go_wp2)
         go_meet
         case rel => exact ⟨_, (decide ((l1.length : Int) > 1)), tS_, H', ⟨by have := HK1.out; first | omega | exact Nat.le_refl _⟩, ⟨dB_ BK106⟩, ⟨dL1_ HB GE106⟩⟩
       case rest =>
        clear HC16; (try clear c1); (try clear c3); (try clear c3b0); (try clear c3b1); (try clear c4); (try clear c4b0); (try clear c5); (try clear c5b0); (try clear c8); (try clear c8b0); (try clear c9); (try clear c10); (try clear c11); (try clear c12); (try clear c13); (try clear c17); (try clear c18); (try clear hcz7_0 hcz7_1 hcz7_10 hcz7_11 hcz7_12 hcz7_13 hcz7_2 hcz7_3 hcz7_4 hcz7_5 hcz7_6 hcz7_7 hcz7_8 hcz7_9 hfz7_0 hfz7_1 hfz7_10 hfz7_11 hfz7_12 hfz7_13 hfz7_2 hfz7_3 hfz7_4 hfz7_5 hfz7_6 hfz7_7 hfz7_8 hfz7_9); (try clear hx104_0); (try clear hx105_0); (try clear hx105_1); (try clear hx105_10); (try clear hx105_11); (try clear hx105_12); (try clear hx105_13); (try clear hx105_2); (try clear hx105_3); (try clear hx105_4); (try clear hx105_5); (try clear hx105_6); (try clear hx105_7); (try clear hx105_8); (try clear hx105_9); (try clear p104); (try clear p105); (try clear q104); (try clear q105); obtain ⟨kq, x46_15, rfl, HA, HJ15, BK106, HB⟩ := hcut
        cases kq with
        | zero => exact absurd HA.out (by simp [fleet_fits.j1])
        | succ kj15 =>
         have H := HA.out; clear HA; simp only [fleet_fits.j1] at H
         by_cases c22 : x46_15 = true
         ·subst c22; rw [if_pos rfl] at H; obtain rfl := Option.some.inj H; go_wp2
          repeat (go_quiet (fail); try go_wp2)
          go_ret
          exact ⟨tE_, dL1_ HB GE106⟩
         ·replace c22 := Bool.eq_false_iff.mpr c22; subst c22; rw [if_neg (show ¬ (false = true) by decide)] at H; obtain rfl := Option.some.inj H; go_wp2
          repeat (go_quiet (fail); try go_wp2)
          go_ret
          exact ⟨tE_, dL1_ HB GE106⟩
   ·rw [if_neg c5] at H; exact absurd H (by simp)
  ·rw [if_neg c4] at H; exact absurd H (by simp)
 ·rw [if_neg c3] at H; exact absurd H (by simp)

end Go.Proofs.Ytgnahbjpockdmab.Q
namespace Go.Proofs.Ytgnahbjpockdmab.Q
open Go.RowKit Go.Proofs.YtgnahbjpockdmabPrs Go.Proofs.YtgnahbjpockdmabOwn Go.Proofs.YtgnahbjpockdmabW.PrintWords Go.Proofs.YtgnahbjpockdmabW.PrintLast Go.Proofs.YtgnahbjpockdmabW.PrintMore
attribute [local go_sem] max2_int min2_int max_two min_two max_three min_three max_four min_four   -- for this text's walks alone
set_option linter.unusedVariables false
set_option linter.unusedSimpArgs false

/-! ### fleet_within: function 18 -/
mutual
def fleet_within.l0 : Nat → Int → Int → List Int → Int → Int → Option (Bool)
  | 0, _, _, _, _, _ => none
  | k + 1, x0, x1, x9, x10, x11 => if x11 < x10 then (if 0 ≤ x11 then (if x11 < (x9.length : Int) then (if (rd x9 x11) < x0 then (fleet_within.j1 k x0 x1 x9 x10 x11 true) else (fleet_within.j1 k x0 x1 x9 x10 x11 (decide ((rd x9 x11) > x1)))) else (none)) else (none)) else (some true)
def fleet_within.j1 : Nat → Int → Int → List Int → Int → Int → Bool → Option (Bool)
  | 0, _, _, _, _, _, _ => none
  | k + 1, x0, x1, x9, x10, x11, x22 => if x22 = true then (some false) else (fleet_within.l0 k x0 x1 x9 x10 (wrap64 (x11 + 1)))
end
def fleet_within.f (k : Nat) (a0 : Int) (a1 : Int) (l2 : List Int) : Option (Bool) := fleet_within.l0 k a0 a1 l2 (l2.length : Int) 0
theorem fleet_within.mono_l : ∀ k, (∀ y0 y1 y2 y3 y4, LeO (fleet_within.l0 k y0 y1 y2 y3 y4) (fleet_within.l0 (k + 1) y0 y1 y2 y3 y4)) ∧ (∀ y0 y1 y2 y3 y4 y5, LeO (fleet_within.j1 k y0 y1 y2 y3 y4 y5) (fleet_within.j1 (k + 1) y0 y1 y2 y3 y4 y5))
  | 0 => ⟨fun _ _ _ _ _ r h => by simp [fleet_within.l0] at h, fun _ _ _ _ _ _ r h => by simp [fleet_within.j1] at h⟩
  | k + 1 => by
    obtain ⟨ih0, ih1⟩ := fleet_within.mono_l k; refine ⟨?_, ?_⟩
    · intro y0 y1 y2 y3 y4
      unfold fleet_within.l0
      repeat' first
      | (with_reducible first | apply ih0 | apply ih1 | exact LeO.refl _ | exact LeO.none _ | refine LeO.ite ?_ ?_ | refine LeO.bind ?_ (fun _ => ?_))
    · intro y0 y1 y2 y3 y4 y5
      unfold fleet_within.j1
      repeat' first
      | (with_reducible first | apply ih0 | apply ih1 | exact LeO.refl _ | exact LeO.none _ | refine LeO.ite ?_ ?_ | refine LeO.bind ?_ (fun _ => ?_))
theorem fleet_within.mono : ∀ a0 a1 a2 k, LeO (fleet_within.f k a0 a1 a2) (fleet_within.f (k + 1) a0 a1 a2) := by
  intro a0 a1 a2 k; obtain ⟨ih0, ih1⟩ := fleet_within.mono_l k
  unfold fleet_within.f
  repeat' first
      | (with_reducible first | apply ih0 | apply ih1 | exact LeO.refl _ | exact LeO.none _ | refine LeO.ite ?_ ?_ | refine LeO.bind ?_ (fun _ => ?_))
set_option maxHeartbeats 8000000 in
set_option maxRecDepth 100000 in
theorem fleet_within.calls (k : Nat) (a0 : Int) (a1 : Int) (A2 : Option Addr) (c2 : Nat) (l2 : List Int) (r : Bool) (w : World) (hr2 : Kd.C (Kd.int .i64) w A2 l2.length l2) (hc2 : l2.length ≤ c2) (h : fleet_within.f k a0 a1 l2 = some r) :
    Calls Try.prog 18 #[.int .i64 a0, .int .i64 a1, .slice A2 l2.length c2] w fun e w' => e = .returned (.bool r) ∧ Drawn0 w w' := by
 have HR2 := Aside0.mk hr2; have HC2 := Aside0.mk hc2; clear hr2 hc2; have H : (fleet_within.l0 k a0 a1 l2 (l2.length : Int) 0) = some r := h; clear h; have H' := Aside0.mk H; clear H
 go_enter Try.func18, Try.ntmps18
 go_wp2
 go_loopg [11] k (fun kq v11 w' => ∃ (x11_1 : Int), v11 = .int .i64 x11_1 ∧ Aside0 (fleet_within.l0 kq a0 a1 l2 (l2.length : Int) x11_1 = some r) ∧ Aside0 (kq ≤ k) ∧ Drawn0 w w')
 case atStart => exact ⟨(0), tS_, H', ⟨Nat.le_refl _⟩, by repeat (first | exact Drawn0.refl _ | apply Drawn0.step)⟩
 case round =>
  clear H'; (try clear c2); obtain ⟨x11_1, rfl, HA, HK1, ⟨m1, rfl⟩⟩ := hrel
  cases gk with
  | zero => exact absurd HA.out (by simp [fleet_within.l0])
  | succ k1 =>
   have H := HA.out; clear HA; simp only [fleet_within.l0] at H
   by_cases c4 : x11_1 < (l2.length : Int)
   ·rw [if_pos c4] at H; have c4b0 : decide (x11_1 < (l2.length : Int)) = true := decide_eq_true c4; clear c4
    by_cases c5 : 0 ≤ x11_1
    ·rw [if_pos c5] at H; have c5b0 : decide (0 ≤ x11_1) = true := decide_eq_true c5; clear c5
     by_cases c6 : x11_1 < (l2.length : Int)
     ·rw [if_pos c6] at H; have c6b0 : decide (x11_1 < (l2.length : Int)) = true := decide_eq_true c6; clear c6; have HC7 := Aside0.mk H; clear H; have p109 : 0 ≤ (x11_1 : Int) := of_decide_eq_true tW_; have q109 : x11_1 < (l2.length : Int) := of_decide_eq_true tW_; obtain ⟨ad109, e109, hx109_0⟩ := Kd.at_int HR2.out x11_1 p109 q109; cases e109; replace p109 := eq_true p109; replace q109 := eq_true q109
      go_upto_region 4 with (fail)
      go_cut [22] (fun v22 wc => ∃ (kq : Nat) (x22_6 : Bool), v22 = .bool x22_6 ∧ Aside0 (fleet_within.j1 kq a0 a1 l2 (l2.length : Int) x11_1 x22_6 = some r) ∧ Aside0 (kq ≤ k1) ∧ Drawn0 w wc)
      case first =>
       have H := HC7.out; clear HC7
       by_cases c8 : (rd l2 x11_1) < a0
       ·rw [if_pos c8] at H; have c8b0 : decide ((rd l2 x11_1) < a0) = true := decide_eq_true c8; clear c8
        (first | rw [c8b0] | (simp only [i64_w, i32_w]; rw [c8b0]) | skip)
        have H' := Aside0.mk H; clear H; go_wp2
        go_meet
        case rel => exact ⟨_, (true), tS_, H', ⟨by have := HK1.out; first | omega | exact Nat.le_refl _⟩, by repeat (first | exact Drawn0.refl _ | apply Drawn0.step)⟩
       ·rw [if_neg c8] at H; have c8b0 : decide ((rd l2 x11_1) < a0) = false := decide_eq_false c8; clear c8
        (first | rw [c8b0] | (simp only [i64_w, i32_w]; rw [c8b0]) | skip)
        have H' := Aside0.mk H; clear H; go_wp2
        go_meet
        case rel => exact ⟨_, (decide ((rd l2 x11_1) > a1)), tS_, H', ⟨by have := HK1.out; first | omega | exact Nat.le_refl _⟩, by repeat (first | exact Drawn0.refl _ | apply Drawn0.step)⟩
      case rest =>
       clear HC7; (try clear c2); (try clear c4); (try clear c4b0); (try clear c5); (try clear c5b0); (try clear c6); (try clear c6b0); (try clear c8); (try clear hx109_0); (try clear p109); (try clear q109); obtain ⟨kq, x22_6, rfl, HA, HJ6, ⟨mc6, rfl⟩⟩ := hcut
       cases kq with
       | zero => exact absurd HA.out (by simp [fleet_within.j1])
       | succ kj6 =>
        have H := HA.out; clear HA; simp only [fleet_within.j1] at H
        by_cases c9 : x22_6 = true
        ·subst c9; rw [if_pos rfl] at H; obtain rfl := Option.some.inj H; go_wp2
         go_ret
         exact ⟨tS_, by repeat (first | exact Drawn0.refl _ | apply Drawn0.step)⟩
        ·replace c9 := Bool.eq_false_iff.mpr c9; subst c9; rw [if_neg (show ¬ (false = true) by decide)] at H; have H' := Aside0.mk H; clear H; go_wp2
         go_roundg kj6
         case measure => have := HK1.out; have := HJ6.out; omega
         case rel => exact ⟨(wrap64 (x11_1 + 1)), tS_, H', ⟨by have := HK1.out; have := HJ6.out; omega⟩, by repeat (first | exact Drawn0.refl _ | apply Drawn0.step)⟩
     ·rw [if_neg c6] at H; exact absurd H (by simp)
    ·rw [if_neg c5] at H; exact absurd H (by simp)
   ·rw [if_neg c4] at H; have c4b0 : decide (x11_1 < (l2.length : Int)) = false := decide_eq_false c4; clear c4; obtain rfl := Option.some.inj H; go_wp2
    go_ret
    exact ⟨tS_, by repeat (first | exact Drawn0.refl _ | apply Drawn0.step)⟩

end Go.Proofs.Ytgnahbjpockdmab.Q
namespace Go.Proofs.Ytgnahbjpockdmab.Q
open Go.RowKit Go.Proofs.YtgnahbjpockdmabPrs Go.Proofs.YtgnahbjpockdmabOwn Go.Proofs.YtgnahbjpockdmabW.PrintWords Go.Proofs.YtgnahbjpockdmabW.PrintLast Go.Proofs.YtgnahbjpockdmabW.PrintMore
attribute [local go_sem] max2_int min2_int max_two min_two max_three min_three max_four min_four   -- for this text's walks alone
set_option linter.unusedVariables false
set_option linter.unusedSimpArgs false

/-! ### fleet_named: function 54 -/
mutual
def fleet_named.l0 : Nat → ByteArray → Int → Int → Option (Bool)
  | 0, _, _, _ => none
  | k + 1, x0, x5, x6 => if x6 < x5 then (if 0 ≤ x6 then (if x6 < (x0.size : Int) then (if (bt x0 x6) < 97 then (fleet_named.j1 k x0 x5 x6 true) else (fleet_named.j1 k x0 x5 x6 (decide ((bt x0 x6) > 122)))) else (none)) else (none)) else (if x0.toList = ([] : List UInt8) then (some false) else (some (decide ((x0.size : Int) ≤ 12))))
def fleet_named.j1 : Nat → ByteArray → Int → Int → Bool → Option (Bool)
  | 0, _, _, _, _ => none
  | k + 1, x0, x5, x6, x18 => if x18 = true then (some false) else (fleet_named.l0 k x0 x5 (wrap64 (x6 + 1)))
end
def fleet_named.f (k : Nat) (a0 : ByteArray) : Option (Bool) := fleet_named.l0 k a0 (a0.size : Int) 0
theorem fleet_named.mono_l : ∀ k, (∀ y0 y1 y2, LeO (fleet_named.l0 k y0 y1 y2) (fleet_named.l0 (k + 1) y0 y1 y2)) ∧ (∀ y0 y1 y2 y3, LeO (fleet_named.j1 k y0 y1 y2 y3) (fleet_named.j1 (k + 1) y0 y1 y2 y3))
  | 0 => ⟨fun _ _ _ r h => by simp [fleet_named.l0] at h, fun _ _ _ _ r h => by simp [fleet_named.j1] at h⟩
  | k + 1 => by
    obtain ⟨ih0, ih1⟩ := fleet_named.mono_l k; refine ⟨?_, ?_⟩
    · intro y0 y1 y2
      unfold fleet_named.l0
      repeat' first
      | (with_reducible first | apply ih0 | apply ih1 | exact LeO.refl _ | exact LeO.none _ | refine LeO.ite ?_ ?_ | refine LeO.bind ?_ (fun _ => ?_))
    · intro y0 y1 y2 y3
      unfold fleet_named.j1
      repeat' first
      | (with_reducible first | apply ih0 | apply ih1 | exact LeO.refl _ | exact LeO.none _ | refine LeO.ite ?_ ?_ | refine LeO.bind ?_ (fun _ => ?_))
theorem fleet_named.mono : ∀ a0 k, LeO (fleet_named.f k a0) (fleet_named.f (k + 1) a0) := by
  intro a0 k; obtain ⟨ih0, ih1⟩ := fleet_named.mono_l k
  unfold fleet_named.f
  repeat' first
      | (with_reducible first | apply ih0 | apply ih1 | exact LeO.refl _ | exact LeO.none _ | refine LeO.ite ?_ ?_ | refine LeO.bind ?_ (fun _ => ?_))
set_option maxHeartbeats 8000000 in
set_option maxRecDepth 100000 in
theorem fleet_named.calls (k : Nat) (a0 : ByteArray) (r : Bool) (w : World) (h : fleet_named.f k a0 = some r) :
    Calls Try.prog 54 #[.string a0] w fun e w' => e = .returned (.bool r) ∧ Drawn0 w w' := by
 have H : (fleet_named.l0 k a0 (a0.size : Int) 0) = some r := h; clear h; have H' := Aside0.mk H; clear H
 go_enter Try.func54, Try.ntmps54
 go_wp2
 go_loopg [6] k (fun kq v6 w' => ∃ (x6_1 : Int), v6 = .int .i64 x6_1 ∧ Aside0 (fleet_named.l0 kq a0 (a0.size : Int) x6_1 = some r) ∧ Aside0 (kq ≤ k) ∧ Drawn0 w w')
 case atStart => exact ⟨(0), tS_, H', ⟨Nat.le_refl _⟩, by repeat (first | exact Drawn0.refl _ | apply Drawn0.step)⟩
 case round =>
  clear H'; obtain ⟨x6_1, rfl, HA, HK1, ⟨m1, rfl⟩⟩ := hrel
  cases gk with
  | zero => exact absurd HA.out (by simp [fleet_named.l0])
  | succ k1 =>
   have H := HA.out; clear HA; simp only [fleet_named.l0] at H
   by_cases c2 : x6_1 < (a0.size : Int)
   ·rw [if_pos c2] at H; have c2b0 : decide (x6_1 < (a0.size : Int)) = true := decide_eq_true c2; clear c2; have HC3 := Aside0.mk H; clear H
    go_upto_region 4 with (fail)
    go_cut [18] (fun v18 wc => ∃ (kq : Nat) (x18_2 : Bool), v18 = .bool x18_2 ∧ Aside0 (fleet_named.j1 kq a0 (a0.size : Int) x6_1 x18_2 = some r) ∧ Aside0 (kq ≤ k1) ∧ Drawn0 w wc)
    case first =>
     have H := HC3.out; clear HC3
     by_cases c4 : 0 ≤ x6_1
     ·rw [if_pos c4] at H; have c4b0 : decide (0 ≤ x6_1) = true := decide_eq_true c4; clear c4
      (first | rw [c4b0] | (simp only [i64_w, i32_w]; rw [c4b0]) | skip)
      by_cases c5 : x6_1 < (a0.size : Int)
      ·rw [if_pos c5] at H; have c5b0 : decide (x6_1 < (a0.size : Int)) = true := decide_eq_true c5; clear c5
       by_cases c7 : (bt a0 x6_1) < 97
       ·rw [if_pos c7] at H; have c7b0 : decide ((bt a0 x6_1) < 97) = true := decide_eq_true c7; clear c7; have H' := Aside0.mk H; clear H; have p6 : 0 ≤ (x6_1 : Int) := of_decide_eq_true tW_; have q6 : x6_1 < (a0.size : Int) := of_decide_eq_true tW_; have hx6 := bt_at a0 x6_1; replace p6 := eq_true p6; replace q6 := eq_true q6; go_wp2
        go_meet
        case rel => exact ⟨_, (true), tS_, H', ⟨by have := HK1.out; first | omega | exact Nat.le_refl _⟩, by repeat (first | exact Drawn0.refl _ | apply Drawn0.step)⟩
       ·rw [if_neg c7] at H; have c7b0 : decide ((bt a0 x6_1) < 97) = false := decide_eq_false c7; clear c7; have H' := Aside0.mk H; clear H; have p6 : 0 ≤ (x6_1 : Int) := of_decide_eq_true tW_; have q6 : x6_1 < (a0.size : Int) := of_decide_eq_true tW_; have hx6 := bt_at a0 x6_1; replace p6 := eq_true p6; replace q6 := eq_true q6; have p8 : 0 ≤ (x6_1 : Int) := of_decide_eq_true tW_; have q8 : x6_1 < (a0.size : Int) := of_decide_eq_true tW_; have hx8 := bt_at a0 x6_1; replace p8 := eq_true p8; replace q8 := eq_true q8; go_wp2
        go_meet
        case rel => exact ⟨_, (decide ((bt a0 x6_1) > 122)), tS_, H', ⟨by have := HK1.out; first | omega | exact Nat.le_refl _⟩, by repeat (first | exact Drawn0.refl _ | apply Drawn0.step)⟩
      ·rw [if_neg c5] at H; exact absurd H (by simp)
     ·rw [if_neg c4] at H; exact absurd H (by simp)
    case rest =>
     clear HC3; (try clear c2); (try clear c2b0); (try clear c4); (try clear c5); (try clear c7); obtain ⟨kq, x18_2, rfl, HA, HJ2, ⟨mc2, rfl⟩⟩ := hcut
     cases kq with
     | zero => exact absurd HA.out (by simp [fleet_named.j1])
     | succ kj2 =>
      have H := HA.out; clear HA; simp only [fleet_named.j1] at H
      by_cases c9 : x18_2 = true
      ·subst c9; rw [if_pos rfl] at H; obtain rfl := Option.some.inj H; go_wp2
       go_ret
       exact ⟨tS_, by repeat (first | exact Drawn0.refl _ | apply Drawn0.step)⟩
      ·replace c9 := Bool.eq_false_iff.mpr c9; subst c9; rw [if_neg (show ¬ (false = true) by decide)] at H; have H' := Aside0.mk H; clear H; go_wp2
       go_roundg kj2
       case measure => have := HK1.out; have := HJ2.out; omega
       case rel => exact ⟨(wrap64 (x6_1 + 1)), tS_, H', ⟨by have := HK1.out; have := HJ2.out; omega⟩, by repeat (first | exact Drawn0.refl _ | apply Drawn0.step)⟩
   ·rw [if_neg c2] at H; have c2b0 : decide (x6_1 < (a0.size : Int)) = false := decide_eq_false c2; clear c2
    by_cases c10 : a0.toList = ([] : List UInt8)
    ·rw [if_pos c10] at H; have c10b0 : (a0.toList == ([] : List UInt8)) = true := beq_iff_eq.mpr c10; have c10b1 : (a0.toList != ([] : List UInt8)) = false := bne_eq_false_iff_eq.mpr c10; clear c10; obtain rfl := Option.some.inj H; go_wp2
     go_ret
     exact ⟨tS_, by repeat (first | exact Drawn0.refl _ | apply Drawn0.step)⟩
    ·rw [if_neg c10] at H; have c10b0 : (a0.toList == ([] : List UInt8)) = false := beq_eq_false_iff_ne.mpr c10; have c10b1 : (a0.toList != ([] : List UInt8)) = true := bne_iff_ne.mpr c10; obtain rfl := Option.some.inj H; go_wp2
     go_ret
     exact ⟨tS_, by repeat (first | exact Drawn0.refl _ | apply Drawn0.step)⟩

end Go.Proofs.Ytgnahbjpockdmab.Q
namespace Go.Proofs.Ytgnahbjpockdmab.Q
open Go.RowKit Go.Proofs.YtgnahbjpockdmabPrs Go.Proofs.YtgnahbjpockdmabOwn Go.Proofs.YtgnahbjpockdmabW.PrintWords Go.Proofs.YtgnahbjpockdmabW.PrintLast Go.Proofs.YtgnahbjpockdmabW.PrintMore
attribute [local go_sem] max2_int min2_int max_two min_two max_three min_three max_four min_four   -- for this text's walks alone
set_option linter.unusedVariables false
set_option linter.unusedSimpArgs false

/-! ### fleet_sound: function 47 -/
def fleet_sound.j0 : Nat → Bool → Option (Bool)
  | 0, _ => none
  | k + 1, x2 => some x2
def fleet_sound.f (k : Nat) (a0_0 : ByteArray) (a0_1 : Int) (a0_2 : Int) (a0_3 : Int) (a0_4 : Int) (a0_5 : Int) (a0_6 : Int) (a0_7 : Int) (a0_8 : Int) (a0_9 : Int) (a0_10 : Int) (a0_11 : Int) (a0_12 : Int) (a0_13 : Bool) : Option (Bool) := (fleet_named.f k a0_0).bind fun t111 => (if t111 = true then ((fleet_within.f k 0 3 (([a0_1] : List Int))).bind fun t115 => (if t115 = true then ((fleet_within.f k 0 600 (([a0_2] : List Int))).bind fun t119 => (if t119 = true then ((fleet_within.f k 0 20000 (([a0_3] : List Int))).bind fun t123 => (if t123 = true then ((fleet_within.f k 1 1000 (([a0_4] : List Int))).bind fun t127 => (if t127 = true then ((fleet_within.f k 0 2000 (([a0_5] : List Int))).bind fun t131 => (if t131 = true then ((fleet_within.f k (-1) 15 (([a0_6] : List Int))).bind fun t135 => (if t135 = true then ((fleet_within.f k 0 1000 (([a0_7] : List Int))).bind fun t139 => (if t139 = true then ((fleet_within.f k 1 16 (([a0_8] : List Int))).bind fun t143 => (if t143 = true then ((fleet_within.f k 0 10000000 (([a0_9, a0_10] : List Int))).bind fun t147 => (if t147 = true then ((fleet_within.f k 1 100 (([a0_11] : List Int))).bind fun t151 => (if t151 = true then ((fleet_within.f k 0 1000 (([a0_12] : List Int))).bind fun t155 => (fleet_sound.j0 k t155)) else (fleet_sound.j0 k false))) else (fleet_sound.j0 k false))) else (fleet_sound.j0 k false))) else (fleet_sound.j0 k false))) else (fleet_sound.j0 k false))) else (fleet_sound.j0 k false))) else (fleet_sound.j0 k false))) else (fleet_sound.j0 k false))) else (fleet_sound.j0 k false))) else (fleet_sound.j0 k false))) else (fleet_sound.j0 k false))
theorem fleet_sound.mono_l : ∀ k, (∀ y0, LeO (fleet_sound.j0 k y0) (fleet_sound.j0 (k + 1) y0))
  | 0 => fun _ r h => by simp [fleet_sound.j0] at h
  | k + 1 => by
    have ih0 := fleet_sound.mono_l k
    · intro y0
      unfold fleet_sound.j0
      repeat' first
      | (with_reducible first | apply ih0 | apply fleet_named.mono | apply fleet_within.mono | exact LeO.refl _ | exact LeO.none _ | refine LeO.ite ?_ ?_ | refine LeO.bind ?_ (fun _ => ?_))
theorem fleet_sound.mono : ∀ a0 a1 a2 a3 a4 a5 a6 a7 a8 a9 a10 a11 a12 a13 k, LeO (fleet_sound.f k a0 a1 a2 a3 a4 a5 a6 a7 a8 a9 a10 a11 a12 a13) (fleet_sound.f (k + 1) a0 a1 a2 a3 a4 a5 a6 a7 a8 a9 a10 a11 a12 a13) := by
  intro a0 a1 a2 a3 a4 a5 a6 a7 a8 a9 a10 a11 a12 a13 k; have ih0 := fleet_sound.mono_l k
  unfold fleet_sound.f
  repeat' first
      | (with_reducible first | apply ih0 | apply fleet_named.mono | apply fleet_within.mono | exact LeO.refl _ | exact LeO.none _ | refine LeO.ite ?_ ?_ | refine LeO.bind ?_ (fun _ => ?_))
set_option maxHeartbeats 8000000 in
set_option maxRecDepth 100000 in
theorem fleet_sound.calls (k : Nat) (a0_0 : ByteArray) (a0_1 : Int) (a0_2 : Int) (a0_3 : Int) (a0_4 : Int) (a0_5 : Int) (a0_6 : Int) (a0_7 : Int) (a0_8 : Int) (a0_9 : Int) (a0_10 : Int) (a0_11 : Int) (a0_12 : Int) (a0_13 : Bool) (r : Bool) (w : World) (h : fleet_sound.f k a0_0 a0_1 a0_2 a0_3 a0_4 a0_5 a0_6 a0_7 a0_8 a0_9 a0_10 a0_11 a0_12 a0_13 = some r) :
    Calls Try.prog 47 #[.agg #[.string a0_0, .int .i64 a0_1, .int .i64 a0_2, .int .i64 a0_3, .int .i64 a0_4, .int .i64 a0_5, .int .i64 a0_6, .int .i64 a0_7, .int .i64 a0_8, .int .i64 a0_9, .int .i64 a0_10, .int .i64 a0_11, .int .i64 a0_12, .bool a0_13]] w fun e w' => e = .returned (.bool r) ∧ Below w.heap.size w w' := by
 have hu52 := Try.underlying52; have HB := Aside0.mk (Below.refl w.heap.size w); have H : ((fleet_named.f k a0_0).bind fun t111 => (if t111 = true then ((fleet_within.f k 0 3 (([a0_1] : List Int))).bind fun t115 => (if t115 = true then ((fleet_within.f k 0 600 (([a0_2] : List Int))).bind fun t119 => (if t119 = true then ((fleet_within.f k 0 20000 (([a0_3] : List Int))).bind fun t123 => (if t123 = true then ((fleet_within.f k 1 1000 (([a0_4] : List Int))).bind fun t127 => (if t127 = true then ((fleet_within.f k 0 2000 (([a0_5] : List Int))).bind fun t131 => (if t131 = true then ((fleet_within.f k (-1) 15 (([a0_6] : List Int))).bind fun t135 => (if t135 = true then ((fleet_within.f k 0 1000 (([a0_7] : List Int))).bind fun t139 => (if t139 = true then ((fleet_within.f k 1 16 (([a0_8] : List Int))).bind fun t143 => (if t143 = true then ((fleet_within.f k 0 10000000 (([a0_9, a0_10] : List Int))).bind fun t147 => (if t147 = true then ((fleet_within.f k 1 100 (([a0_11] : List Int))).bind fun t151 => (if t151 = true then ((fleet_within.f k 0 1000 (([a0_12] : List Int))).bind fun t155 => (fleet_sound.j0 k t155)) else (fleet_sound.j0 k false))) else (fleet_sound.j0 k false))) else (fleet_sound.j0 k false))) else (fleet_sound.j0 k false))) else (fleet_sound.j0 k false))) else (fleet_sound.j0 k false))) else (fleet_sound.j0 k false))) else (fleet_sound.j0 k false))) else (fleet_sound.j0 k false))) else (fleet_sound.j0 k false))) else (fleet_sound.j0 k false))) = some r := h; clear h; have HC2 := Aside0.mk H; clear H
 go_enter Try.func47, Try.ntmps47
 go_upto_region 1 with (first | ((with_reducible refine gate_dst (N := 1) rfl ?_); (try (refine gate_guard (by rfl) ?_; dsimp only)); refine bx_ (N := 1) (cs := #[.string a0_0, .int .i64 a0_1, .int .i64 a0_2, .int .i64 a0_3, .int .i64 a0_4, .int .i64 a0_5, .int .i64 a0_6, .int .i64 a0_7, .int .i64 a0_8, .int .i64 a0_9, .int .i64 a0_10, .int .i64 a0_11, .int .i64 a0_12, .bool a0_13]) (t := 52) ?_; intro gb110 hg w3 hbox hb; have BK110 := Aside0.mk (hbox); have GW110 := Aside0.mk ((dS_ hg (dL_ HB) : w.heap.size ≤ gb110)); have GE110 := GW110; replace HB := Aside0.mk (below_step (dL_ HB) hb); clear hb hbox hg))
 (try simp only [Act.put, List.setIfInBounds_toArray, List.set_cons_zero, List.set_cons_succ])
 go_cut [2] (fun v2 wc => ∃ (kq : Nat) (x2_1 : Bool), v2 = .bool x2_1 ∧ Aside0 (fleet_sound.j0 kq x2_1 = some r) ∧ Aside0 (kq ≤ k) ∧ Aside0 (wc.heap[gb110]? = some (.cells #[.string a0_0, .int .i64 a0_1, .int .i64 a0_2, .int .i64 a0_3, .int .i64 a0_4, .int .i64 a0_5, .int .i64 a0_6, .int .i64 a0_7, .int .i64 a0_8, .int .i64 a0_9, .int .i64 a0_10, .int .i64 a0_11, .int .i64 a0_12, .bool a0_13] 52 (0, 0))) ∧ Aside0 (Below w.heap.size w wc))
 case first =>
  dsimp only [List.append]; have H := HC2.out; clear HC2; replace H := Option.bind_eq_some_iff.mp H; obtain ⟨t111, A40, H⟩ := H; have A4 := Aside0.mk A40; clear A40; refine (Classical.em (t111 = true)).elim (fun c5 => ?a1_) (fun c5 => ?b1_)
  case' a1_ =>
   subst c5; rw [if_pos rfl] at H; obtain ⟨y112, hy112⟩ : ∃ y_ : List Int, y_ = (([a0_1] : List Int)) := ⟨_, rfl⟩; replace H : ((fleet_within.f k 0 3 y112).bind fun t115 => (if t115 = true then ((fleet_within.f k 0 600 (([a0_2] : List Int))).bind fun t119 => (if t119 = true then ((fleet_within.f k 0 20000 (([a0_3] : List Int))).bind fun t123 => (if t123 = true then ((fleet_within.f k 1 1000 (([a0_4] : List Int))).bind fun t127 => (if t127 = true then ((fleet_within.f k 0 2000 (([a0_5] : List Int))).bind fun t131 => (if t131 = true then ((fleet_within.f k (-1) 15 (([a0_6] : List Int))).bind fun t135 => (if t135 = true then ((fleet_within.f k 0 1000 (([a0_7] : List Int))).bind fun t139 => (if t139 = true then ((fleet_within.f k 1 16 (([a0_8] : List Int))).bind fun t143 => (if t143 = true then ((fleet_within.f k 0 10000000 (([a0_9, a0_10] : List Int))).bind fun t147 => (if t147 = true then ((fleet_within.f k 1 100 (([a0_11] : List Int))).bind fun t151 => (if t151 = true then ((fleet_within.f k 0 1000 (([a0_12] : List Int))).bind fun t155 => (fleet_sound.j0 k t155)) else (fleet_sound.j0 k false))) else (fleet_sound.j0 k false))) else (fleet_sound.j0 k false))) else (fleet_sound.j0 k false))) else (fleet_sound.j0 k false))) else (fleet_sound.j0 k false))) else (fleet_sound.j0 k false))) else (fleet_sound.j0 k false))) else (fleet_sound.j0 k false))) else (fleet_sound.j0 k false))) = some r := by first | (rw [hy112]; with_reducible exact H) | (have H2_ := (Option.bind_some _ _).symm.trans H; rw [hy112]; with_reducible exact H2_) | (have H2_ := (Option.bind_some _ _).symm.trans H; with_reducible exact H2_) | with_reducible exact H | (rw [hy112]; exact H) | exact H
   have Ny112 := Aside0.mk hy112; clear hy112; replace H := Option.bind_eq_some_iff.mp H; obtain ⟨t115, A60, H⟩ := H; have A6 := Aside0.mk A60; clear A60; refine (Classical.em (t115 = true)).elim (fun c7 => ?a2_) (fun c7 => ?b2_)
   case' a2_ =>
    subst c7; rw [if_pos rfl] at H; obtain ⟨y116, hy116⟩ : ∃ y_ : List Int, y_ = (([a0_2] : List Int)) := ⟨_, rfl⟩; replace H : ((fleet_within.f k 0 600 y116).bind fun t119 => (if t119 = true then ((fleet_within.f k 0 20000 (([a0_3] : List Int))).bind fun t123 => (if t123 = true then ((fleet_within.f k 1 1000 (([a0_4] : List Int))).bind fun t127 => (if t127 = true then ((fleet_within.f k 0 2000 (([a0_5] : List Int))).bind fun t131 => (if t131 = true then ((fleet_within.f k (-1) 15 (([a0_6] : List Int))).bind fun t135 => (if t135 = true then ((fleet_within.f k 0 1000 (([a0_7] : List Int))).bind fun t139 => (if t139 = true then ((fleet_within.f k 1 16 (([a0_8] : List Int))).bind fun t143 => (if t143 = true then ((fleet_within.f k 0 10000000 (([a0_9, a0_10] : List Int))).bind fun t147 => (if t147 = true then ((fleet_within.f k 1 100 (([a0_11] : List Int))).bind fun t151 => (if t151 = true then ((fleet_within.f k 0 1000 (([a0_12] : List Int))).bind fun t155 => (fleet_sound.j0 k t155)) else (fleet_sound.j0 k false))) else (fleet_sound.j0 k false))) else (fleet_sound.j0 k false))) else (fleet_sound.j0 k false))) else (fleet_sound.j0 k false))) else (fleet_sound.j0 k false))) else (fleet_sound.j0 k false))) else (fleet_sound.j0 k false))) else (fleet_sound.j0 k false))) = some r := by first | (rw [hy116]; with_reducible exact H) | (have H2_ := (Option.bind_some _ _).symm.trans H; rw [hy116]; with_reducible exact H2_) | (have H2_ := (Option.bind_some _ _).symm.trans H; with_reducible exact H2_) | with_reducible exact H | (rw [hy116]; exact H) | exact H
    have Ny116 := Aside0.mk hy116; clear hy116; replace H := Option.bind_eq_some_iff.mp H; obtain ⟨t119, A80, H⟩ := H; have A8 := Aside0.mk A80; clear A80; refine (Classical.em (t119 = true)).elim (fun c9 => ?a3_) (fun c9 => ?b3_)
    case' a3_ =>
     subst c9; rw [if_pos rfl] at H; obtain ⟨y120, hy120⟩ : ∃ y_ : List Int, y_ = (([a0_3] : List Int)) := ⟨_, rfl⟩; replace H : ((fleet_within.f k 0 20000 y120).bind fun t123 => (if t123 = true then ((fleet_within.f k 1 1000 (([a0_4] : List Int))).bind fun t127 => (if t127 = true then ((fleet_within.f k 0 2000 (([a0_5] : List Int))).bind fun t131 => (if t131 = true then ((fleet_within.f k (-1) 15 (([a0_6] : List Int))).bind fun t135 => (if t135 = true then ((fleet_within.f k 0 1000 (([a0_7] : List Int))).bind fun t139 => (if t139 = true then ((fleet_within.f k 1 16 (([a0_8] : List Int))).bind fun t143 => (if t143 = true then ((fleet_within.f k 0 10000000 (([a0_9, a0_10] : List Int))).bind fun t147 => (if t147 = true then ((fleet_within.f k 1 100 (([a0_11] : List Int))).bind fun t151 => (if t151 = true then ((fleet_within.f k 0 1000 (([a0_12] : List Int))).bind fun t155 => (fleet_sound.j0 k t155)) else (fleet_sound.j0 k false))) else (fleet_sound.j0 k false))) else (fleet_sound.j0 k false))) else (fleet_sound.j0 k false))) else (fleet_sound.j0 k false))) else (fleet_sound.j0 k false))) else (fleet_sound.j0 k false))) else (fleet_sound.j0 k false))) = some r := by first | (rw [hy120]; with_reducible exact H) | (have H2_ := (Option.bind_some _ _).symm.trans H; rw [hy120]; with_reducible exact H2_) | (have H2_ := (Option.bind_some _ _).symm.trans H; with_reducible exact H2_) | with_reducible exact H | (rw [hy120]; exact H) | exact H
     have Ny120 := Aside0.mk hy120; clear hy120; replace H := Option.bind_eq_some_iff.mp H; obtain ⟨t123, A100, H⟩ := H; have A10 := Aside0.mk A100; clear A100; refine (Classical.em (t123 = true)).elim (fun c11 => ?a4_) (fun c11 => ?b4_)
     case' a4_ =>
      subst c11; rw [if_pos rfl] at H; obtain ⟨y124, hy124⟩ : ∃ y_ : List Int, y_ = (([a0_4] : List Int)) := ⟨_, rfl⟩; replace H : ((fleet_within.f k 1 1000 y124).bind fun t127 => (if t127 = true then ((fleet_within.f k 0 2000 (([a0_5] : List Int))).bind fun t131 => (if t131 = true then ((fleet_within.f k (-1) 15 (([a0_6] : List Int))).bind fun t135 => (if t135 = true then ((fleet_within.f k 0 1000 (([a0_7] : List Int))).bind fun t139 => (if t139 = true then ((fleet_within.f k 1 16 (([a0_8] : List Int))).bind fun t143 => (if t143 = true then ((fleet_within.f k 0 10000000 (([a0_9, a0_10] : List Int))).bind fun t147 => (if t147 = true then ((fleet_within.f k 1 100 (([a0_11] : List Int))).bind fun t151 => (if t151 = true then ((fleet_within.f k 0 1000 (([a0_12] : List Int))).bind fun t155 => (fleet_sound.j0 k t155)) else (fleet_sound.j0 k false))) else (fleet_sound.j0 k false))) else (fleet_sound.j0 k false))) else (fleet_sound.j0 k false))) else (fleet_sound.j0 k false))) else (fleet_sound.j0 k false))) else (fleet_sound.j0 k false))) = some r := by first | (rw [hy124]; with_reducible exact H) | (have H2_ := (Option.bind_some _ _).symm.trans H; rw [hy124]; with_reducible exact H2_) | (have H2_ := (Option.bind_some _ _).symm.trans H; with_reducible exact H2_) | with_reducible exact H | (rw [hy124]; exact H) | exact H
      have Ny124 := Aside0.mk hy124; clear hy124; replace H := Option.bind_eq_some_iff.mp H; obtain ⟨t127, A120, H⟩ := H; have A12 := Aside0.mk A120; clear A120; refine (Classical.em (t127 = true)).elim (fun c13 => ?a5_) (fun c13 => ?b5_)
      case' a5_ =>
       subst c13; rw [if_pos rfl] at H; obtain ⟨y128, hy128⟩ : ∃ y_ : List Int, y_ = (([a0_5] : List Int)) := ⟨_, rfl⟩; replace H : ((fleet_within.f k 0 2000 y128).bind fun t131 => (if t131 = true then ((fleet_within.f k (-1) 15 (([a0_6] : List Int))).bind fun t135 => (if t135 = true then ((fleet_within.f k 0 1000 (([a0_7] : List Int))).bind fun t139 => (if t139 = true then ((fleet_within.f k 1 16 (([a0_8] : List Int))).bind fun t143 => (if t143 = true then ((fleet_within.f k 0 10000000 (([a0_9, a0_10] : List Int))).bind fun t147 => (if t147 = true then ((fleet_within.f k 1 100 (([a0_11] : List Int))).bind fun t151 => (if t151 = true then ((fleet_within.f k 0 1000 (([a0_12] : List Int))).bind fun t155 => (fleet_sound.j0 k t155)) else (fleet_sound.j0 k false))) else (fleet_sound.j0 k false))) else (fleet_sound.j0 k false))) else (fleet_sound.j0 k false))) else (fleet_sound.j0 k false))) else (fleet_sound.j0 k false))) = some r := by first | (rw [hy128]; with_reducible exact H) | (have H2_ := (Option.bind_some _ _).symm.trans H; rw [hy128]; with_reducible exact H2_) | (have H2_ := (Option.bind_some _ _).symm.trans H; with_reducible exact H2_) | with_reducible exact H | (rw [hy128]; exact H) | exact H
       have Ny128 := Aside0.mk hy128; clear hy128; replace H := Option.bind_eq_some_iff.mp H; obtain ⟨t131, A140, H⟩ := H; have A14 := Aside0.mk A140; clear A140; refine (Classical.em (t131 = true)).elim (fun c15 => ?a6_) (fun c15 => ?b6_)
       case' a6_ =>
        subst c15; rw [if_pos rfl] at H; obtain ⟨y132, hy132⟩ : ∃ y_ : List Int, y_ = (([a0_6] : List Int)) := ⟨_, rfl⟩; replace H : ((fleet_within.f k (-1) 15 y132).bind fun t135 => (if t135 = true then ((fleet_within.f k 0 1000 (([a0_7] : List Int))).bind fun t139 => (if t139 = true then ((fleet_within.f k 1 16 (([a0_8] : List Int))).bind fun t143 => (if t143 = true then ((fleet_within.f k 0 10000000 (([a0_9, a0_10] : List Int))).bind fun t147 => (if t147 = true then ((fleet_within.f k 1 100 (([a0_11] : List Int))).bind fun t151 => (if t151 = true then ((fleet_within.f k 0 1000 (([a0_12] : List Int))).bind fun t155 => (fleet_sound.j0 k t155)) else (fleet_sound.j0 k false))) else (fleet_sound.j0 k false))) else (fleet_sound.j0 k false))) else (fleet_sound.j0 k false))) else (fleet_sound.j0 k false))) = some r := by first | (rw [hy132]; with_reducible exact H) | (have H2_ := (Option.bind_some _ _).symm.trans H; rw [hy132]; with_reducible exact H2_) | (have H2_ := (Option.bind_some _ _).symm.trans H; with_reducible exact H2_) | with_reducible exact H | (rw [hy132]; exact H) | exact H
        have Ny132 := Aside0.mk hy132; clear hy132; replace H := Option.bind_eq_some_iff.mp H; obtain ⟨t135, A160, H⟩ := H; have A16 := Aside0.mk A160; clear A160; refine (Classical.em (t135 = true)).elim (fun c17 => ?a7_) (fun c17 => ?b7_)
        case' a7_ =>
         subst c17; rw [if_pos rfl] at H; obtain ⟨y136, hy136⟩ : ∃ y_ : List Int, y_ = (([a0_7] : List Int)) := ⟨_, rfl⟩; replace H : ((fleet_within.f k 0 1000 y136).bind fun t139 => (if t139 = true then ((fleet_within.f k 1 16 (([a0_8] : List Int))).bind fun t143 => (if t143 = true then ((fleet_within.f k 0 10000000 (([a0_9, a0_10] : List Int))).bind fun t147 => (if t147 = true then ((fleet_within.f k 1 100 (([a0_11] : List Int))).bind fun t151 => (if t151 = true then ((fleet_within.f k 0 1000 (([a0_12] : List Int))).bind fun t155 => (fleet_sound.j0 k t155)) else (fleet_sound.j0 k false))) else (fleet_sound.j0 k false))) else (fleet_sound.j0 k false))) else (fleet_sound.j0 k false))) = some r := by first | (rw [hy136]; with_reducible exact H) | (have H2_ := (Option.bind_some _ _).symm.trans H; rw [hy136]; with_reducible exact H2_) | (have H2_ := (Option.bind_some _ _).symm.trans H; with_reducible exact H2_) | with_reducible exact H | (rw [hy136]; exact H) | exact H
         have Ny136 := Aside0.mk hy136; clear hy136; replace H := Option.bind_eq_some_iff.mp H; obtain ⟨t139, A180, H⟩ := H; have A18 := Aside0.mk A180; clear A180; refine (Classical.em (t139 = true)).elim (fun c19 => ?a8_) (fun c19 => ?b8_)
         case' a8_ =>
          subst c19; rw [if_pos rfl] at H; obtain ⟨y140, hy140⟩ : ∃ y_ : List Int, y_ = (([a0_8] : List Int)) := ⟨_, rfl⟩; replace H : ((fleet_within.f k 1 16 y140).bind fun t143 => (if t143 = true then ((fleet_within.f k 0 10000000 (([a0_9, a0_10] : List Int))).bind fun t147 => (if t147 = true then ((fleet_within.f k 1 100 (([a0_11] : List Int))).bind fun t151 => (if t151 = true then ((fleet_within.f k 0 1000 (([a0_12] : List Int))).bind fun t155 => (fleet_sound.j0 k t155)) else (fleet_sound.j0 k false))) else (fleet_sound.j0 k false))) else (fleet_sound.j0 k false))) = some r := by first | (rw [hy140]; with_reducible exact H) | (have H2_ := (Option.bind_some _ _).symm.trans H; rw [hy140]; with_reducible exact H2_) | (have H2_ := (Option.bind_some _ _).symm.trans H; with_reducible exact H2_) | with_reducible exact H | (rw [hy140]; exact H) | exact H
          have Ny140 := Aside0.mk hy140; clear hy140; replace H := Option.bind_eq_some_iff.mp H; obtain ⟨t143, A200, H⟩ := H; have A20 := Aside0.mk A200; clear A200; refine (Classical.em (t143 = true)).elim (fun c21 => ?a9_) (fun c21 => ?b9_)
          case' a9_ =>
           subst c21; rw [if_pos rfl] at H; obtain ⟨y144, hy144⟩ : ∃ y_ : List Int, y_ = (([a0_9, a0_10] : List Int)) := ⟨_, rfl⟩; replace H : ((fleet_within.f k 0 10000000 y144).bind fun t147 => (if t147 = true then ((fleet_within.f k 1 100 (([a0_11] : List Int))).bind fun t151 => (if t151 = true then ((fleet_within.f k 0 1000 (([a0_12] : List Int))).bind fun t155 => (fleet_sound.j0 k t155)) else (fleet_sound.j0 k false))) else (fleet_sound.j0 k false))) = some r := by first | (rw [hy144]; with_reducible exact H) | (have H2_ := (Option.bind_some _ _).symm.trans H; rw [hy144]; with_reducible exact H2_) | (have H2_ := (Option.bind_some _ _).symm.trans H; with_reducible exact H2_) | with_reducible exact H | (rw [hy144]; exact H) | exact H
           have Ny144 := Aside0.mk hy144; clear hy144; replace H := Option.bind_eq_some_iff.mp H; obtain ⟨t147, A220, H⟩ := H; have A22 := Aside0.mk A220; clear A220; refine (Classical.em (t147 = true)).elim (fun c23 => ?a10_) (fun c23 => ?b10_)
           case' a10_ =>
            subst c23; rw [if_pos rfl] at H; obtain ⟨y148, hy148⟩ : ∃ y_ : List Int, y_ = (([a0_11] : List Int)) := ⟨_, rfl⟩; replace H : ((fleet_within.f k 1 100 y148).bind fun t151 => (if t151 = true then ((fleet_within.f k 0 1000 (([a0_12] : List Int))).bind fun t155 => (fleet_sound.j0 k t155)) else (fleet_sound.j0 k false))) = some r := by first | (rw [hy148]; with_reducible exact H) | (have H2_ := (Option.bind_some _ _).symm.trans H; rw [hy148]; with_reducible exact H2_) | (have H2_ := (Option.bind_some _ _).symm.trans H; with_reducible exact H2_) | with_reducible exact H | (rw [hy148]; exact H) | exact H
            have Ny148 := Aside0.mk hy148; clear hy148; replace H := Option.bind_eq_some_iff.mp H; obtain ⟨t151, A240, H⟩ := H; have A24 := Aside0.mk A240; clear A240; refine (Classical.em (t151 = true)).elim (fun c25 => ?a11_) (fun c25 => ?b11_)
            case' a11_ =>
             subst c25; rw [if_pos rfl] at H; obtain ⟨y152, hy152⟩ : ∃ y_ : List Int, y_ = (([a0_12] : List Int)) := ⟨_, rfl⟩; replace H : ((fleet_within.f k 0 1000 y152).bind fun t155 => (fleet_sound.j0 k t155)) = some r := by first | (rw [hy152]; with_reducible exact H) | (have H2_ := (Option.bind_some _ _).symm.trans H; rw [hy152]; with_reducible exact H2_) | (have H2_ := (Option.bind_some _ _).symm.trans H; with_reducible exact H2_) | with_reducible exact H | (rw [hy152]; exact H) | exact H
             have Ny152 := Aside0.mk hy152; clear hy152; replace H := Option.bind_eq_some_iff.mp H; obtain ⟨t155, A260, H⟩ := H; have A26 := Aside0.mk A260; clear A260; have H' := Aside0.mk H; clear H
            case' b11_ =>
             replace c25 := Bool.eq_false_iff.mpr c25; subst c25; rw [if_neg (show ¬ (false = true) by decide)] at H; have H' := Aside0.mk H; clear H
           case' b10_ =>
            replace c23 := Bool.eq_false_iff.mpr c23; subst c23; rw [if_neg (show ¬ (false = true) by decide)] at H; have H' := Aside0.mk H; clear H
          case' b9_ =>
           replace c21 := Bool.eq_false_iff.mpr c21; subst c21; rw [if_neg (show ¬ (false = true) by decide)] at H; have H' := Aside0.mk H; clear H
         case' b8_ =>
          replace c19 := Bool.eq_false_iff.mpr c19; subst c19; rw [if_neg (show ¬ (false = true) by decide)] at H; have H' := Aside0.mk H; clear H
        case' b7_ =>
         replace c17 := Bool.eq_false_iff.mpr c17; subst c17; rw [if_neg (show ¬ (false = true) by decide)] at H; have H' := Aside0.mk H; clear H
       case' b6_ =>
        replace c15 := Bool.eq_false_iff.mpr c15; subst c15; rw [if_neg (show ¬ (false = true) by decide)] at H; have H' := Aside0.mk H; clear H
      case' b5_ =>
       replace c13 := Bool.eq_false_iff.mpr c13; subst c13; rw [if_neg (show ¬ (false = true) by decide)] at H; have H' := Aside0.mk H; clear H
     case' b4_ =>
      replace c11 := Bool.eq_false_iff.mpr c11; subst c11; rw [if_neg (show ¬ (false = true) by decide)] at H; have H' := Aside0.mk H; clear H
    case' b3_ =>
     replace c9 := Bool.eq_false_iff.mpr c9; subst c9; rw [if_neg (show ¬ (false = true) by decide)] at H; have H' := Aside0.mk H; clear H
   case' b2_ =>
    replace c7 := Bool.eq_false_iff.mpr c7; subst c7; rw [if_neg (show ¬ (false = true) by decide)] at H; have H' := Aside0.mk H; clear H
  case' b1_ =>
   replace c5 := Bool.eq_false_iff.mpr c5; subst c5; rw [if_neg (show ¬ (false = true) by decide)] at H; have H' := Aside0.mk H; clear H
  all_goals (
   obtain ⟨hczz1_0, hczz1_1, hczz1_2, hczz1_3, hczz1_4, hczz1_5, hczz1_6, hczz1_7, hczz1_8, hczz1_9, hczz1_10, hczz1_11, hczz1_12, hczz1_13, hfzz1_0, hfzz1_1, hfzz1_2, hfzz1_3, hfzz1_4, hfzz1_5, hfzz1_6, hfzz1_7, hfzz1_8, hfzz1_9, hfzz1_10, hfzz1_11, hfzz1_12, hfzz1_13⟩ := cs14_ BK110.out
   go_wp2_with (first | (go_at_call 54; (with_reducible refine (fleet_named.calls k a0_0 _ _ A4.out).mono ?_); rintro e w' ⟨rfl, ⟨nd, rfl⟩⟩) | ((with_reducible refine gate_dst (N := 9) rfl ?_); (try (refine gate_guard (by rfl) ?_; dsimp only)); refine li1_ (N := 9) 3 a0_1 ?_; intro vz1 wz1 hoz1 hb; (first | rw [← Ny112.out] at hoz1 | (simp only [Int.reduceToNat] at hoz1; rw [← Ny112.out] at hoz1)); have HOz1 := Aside0.mk (Kd.R_lower hoz1 (below_size (dL1_ HB GE110))); replace BK110 := bk_ BK110 hb; replace HB := Aside0.mk (below_step (dL1_ HB GE110) hb); clear hb hoz1; obtain ⟨Aoz1, coz1, eoz1⟩ := Kd.R_slice HOz1.out; subst eoz1) | (go_at_call 18; (with_reducible refine (fleet_within.calls k 0 3 _ _ y112 _ _ ?side1 ?side2 A6.out).mono ?_); (case side1 => exact rC_ (Kd.R_reads' HOz1.out).2.2); (case side2 => exact (Kd.R_reads' HOz1.out).2.1); rintro e w' ⟨rfl, ⟨nd, rfl⟩⟩; obtain ⟨hczz2_0, hczz2_1, hczz2_2, hczz2_3, hczz2_4, hczz2_5, hczz2_6, hczz2_7, hczz2_8, hczz2_9, hczz2_10, hczz2_11, hczz2_12, hczz2_13, hfzz2_0, hfzz2_1, hfzz2_2, hfzz2_3, hfzz2_4, hfzz2_5, hfzz2_6, hfzz2_7, hfzz2_8, hfzz2_9, hfzz2_10, hfzz2_11, hfzz2_12, hfzz2_13⟩ := cs14_ BK110.out) | ((with_reducible refine gate_dst (N := 15) rfl ?_); (try (refine gate_guard (by rfl) ?_; dsimp only)); refine li1_ (N := 15) 3 a0_2 ?_; intro vz2 wz2 hoz2 hb; (first | rw [← Ny116.out] at hoz2 | (simp only [Int.reduceToNat] at hoz2; rw [← Ny116.out] at hoz2)); have HOz2 := Aside0.mk (Kd.R_lower (Kd.R_new' hoz2 (Kd.R_lt (dR_ HOz1))) (below_size (dL1_ HB GE110))); replace HOz1 := Aside0.mk (Kd.R_elder' (dR_ HOz1) (Kd.R_base hoz2) hb); replace BK110 := bk_ BK110 hb; replace HB := Aside0.mk (below_step (dL1_ HB GE110) hb); clear hb hoz2; obtain ⟨Aoz2, coz2, eoz2⟩ := Kd.R_slice HOz2.out; subst eoz2) | (go_at_call 18; (with_reducible refine (fleet_within.calls k 0 600 _ _ y116 _ _ ?side1 ?side2 A8.out).mono ?_); (case side1 => exact rC_ (Kd.R_reads' HOz2.out).2.2); (case side2 => exact (Kd.R_reads' HOz2.out).2.1); rintro e w' ⟨rfl, ⟨nd, rfl⟩⟩; obtain ⟨hczz3_0, hczz3_1, hczz3_2, hczz3_3, hczz3_4, hczz3_5, hczz3_6, hczz3_7, hczz3_8, hczz3_9, hczz3_10, hczz3_11, hczz3_12, hczz3_13, hfzz3_0, hfzz3_1, hfzz3_2, hfzz3_3, hfzz3_4, hfzz3_5, hfzz3_6, hfzz3_7, hfzz3_8, hfzz3_9, hfzz3_10, hfzz3_11, hfzz3_12, hfzz3_13⟩ := cs14_ BK110.out) | ((with_reducible refine gate_dst (N := 21) rfl ?_); (try (refine gate_guard (by rfl) ?_; dsimp only)); refine li1_ (N := 21) 3 a0_3 ?_; intro vz3 wz3 hoz3 hb; (first | rw [← Ny120.out] at hoz3 | (simp only [Int.reduceToNat] at hoz3; rw [← Ny120.out] at hoz3)); have n0_ := Aside0.mk (Kd.R_elder' (dR_ HOz1) (Kd.R_base hoz3) hb); have n1_ := Aside0.mk (Kd.R_elder' (dR_ HOz2) (Kd.R_base hoz3) hb); have n2_ := Aside0.mk (Kd.R_lower (Kd.R_new' (Kd.R_new' hoz3 (Kd.R_lt (dR_ HOz1))) (Kd.R_lt (dR_ HOz2))) (below_size (dL1_ HB GE110))); have n3_ := bk_ BK110 hb; have nz1_ := Aside0.mk (below_step (dL1_ HB GE110) hb); clear HOz1; clear HOz2; clear BK110; clear HB; have HOz1 := n0_; have HOz2 := n1_; have HOz3 := n2_; have BK110 := n3_; have HB := nz1_; clear n0_ n1_ n2_ n3_ nz1_; clear hb hoz3; obtain ⟨Aoz3, coz3, eoz3⟩ := Kd.R_slice HOz3.out; subst eoz3) | (go_at_call 18; (with_reducible refine (fleet_within.calls k 0 20000 _ _ y120 _ _ ?side1 ?side2 A10.out).mono ?_); (case side1 => exact rC_ (Kd.R_reads' HOz3.out).2.2); (case side2 => exact (Kd.R_reads' HOz3.out).2.1); rintro e w' ⟨rfl, ⟨nd, rfl⟩⟩; obtain ⟨hczz4_0, hczz4_1, hczz4_2, hczz4_3, hczz4_4, hczz4_5, hczz4_6, hczz4_7, hczz4_8, hczz4_9, hczz4_10, hczz4_11, hczz4_12, hczz4_13, hfzz4_0, hfzz4_1, hfzz4_2, hfzz4_3, hfzz4_4, hfzz4_5, hfzz4_6, hfzz4_7, hfzz4_8, hfzz4_9, hfzz4_10, hfzz4_11, hfzz4_12, hfzz4_13⟩ := cs14_ BK110.out) | ((with_reducible refine gate_dst (N := 27) rfl ?_); (try (refine gate_guard (by rfl) ?_; dsimp only)); refine li1_ (N := 27) 3 a0_4 ?_; intro vz4 wz4 hoz4 hb; (first | rw [← Ny124.out] at hoz4 | (simp only [Int.reduceToNat] at hoz4; rw [← Ny124.out] at hoz4)); have n0_ := Aside0.mk (Kd.R_elder' (dR_ HOz1) (Kd.R_base hoz4) hb); have n1_ := Aside0.mk (Kd.R_elder' (dR_ HOz2) (Kd.R_base hoz4) hb); have n2_ := Aside0.mk (Kd.R_elder' (dR_ HOz3) (Kd.R_base hoz4) hb); have n3_ := Aside0.mk (Kd.R_lower (Kd.R_new' (Kd.R_new' (Kd.R_new' hoz4 (Kd.R_lt (dR_ HOz1))) (Kd.R_lt (dR_ HOz2))) (Kd.R_lt (dR_ HOz3))) (below_size (dL1_ HB GE110))); have nz1_ := bk_ BK110 hb; have nz2_ := Aside0.mk (below_step (dL1_ HB GE110) hb); clear HOz1; clear HOz2; clear HOz3; clear BK110; clear HB; have HOz1 := n0_; have HOz2 := n1_; have HOz3 := n2_; have HOz4 := n3_; have BK110 := nz1_; have HB := nz2_; clear n0_ n1_ n2_ n3_ nz1_ nz2_; clear hb hoz4; obtain ⟨Aoz4, coz4, eoz4⟩ := Kd.R_slice HOz4.out; subst eoz4) | (go_at_call 18; (with_reducible refine (fleet_within.calls k 1 1000 _ _ y124 _ _ ?side1 ?side2 A12.out).mono ?_); (case side1 => exact rC_ (Kd.R_reads' HOz4.out).2.2); (case side2 => exact (Kd.R_reads' HOz4.out).2.1); rintro e w' ⟨rfl, ⟨nd, rfl⟩⟩; obtain ⟨hczz5_0, hczz5_1, hczz5_2, hczz5_3, hczz5_4, hczz5_5, hczz5_6, hczz5_7, hczz5_8, hczz5_9, hczz5_10, hczz5_11, hczz5_12, hczz5_13, hfzz5_0, hfzz5_1, hfzz5_2, hfzz5_3, hfzz5_4, hfzz5_5, hfzz5_6, hfzz5_7, hfzz5_8, hfzz5_9, hfzz5_10, hfzz5_11, hfzz5_12, hfzz5_13⟩ := cs14_ BK110.out) | ((with_reducible refine gate_dst (N := 33) rfl ?_); (try (refine gate_guard (by rfl) ?_; dsimp only)); refine li1_ (N := 33) 3 a0_5 ?_; intro vz5 wz5 hoz5 hb; (first | rw [← Ny128.out] at hoz5 | (simp only [Int.reduceToNat] at hoz5; rw [← Ny128.out] at hoz5)); have n0_ := Aside0.mk (Kd.R_elder' (dR_ HOz1) (Kd.R_base hoz5) hb); have n1_ := Aside0.mk (Kd.R_elder' (dR_ HOz2) (Kd.R_base hoz5) hb); have n2_ := Aside0.mk (Kd.R_elder' (dR_ HOz3) (Kd.R_base hoz5) hb); have n3_ := Aside0.mk (Kd.R_elder' (dR_ HOz4) (Kd.R_base hoz5) hb); have nz1_ := Aside0.mk (Kd.R_lower (Kd.R_new' (Kd.R_new' (Kd.R_new' (Kd.R_new' hoz5 (Kd.R_lt (dR_ HOz1))) (Kd.R_lt (dR_ HOz2))) (Kd.R_lt (dR_ HOz3))) (Kd.R_lt (dR_ HOz4))) (below_size (dL1_ HB GE110))); have nz2_ := bk_ BK110 hb; have nz3_ := Aside0.mk (below_step (dL1_ HB GE110) hb); clear HOz1; clear HOz2; clear HOz3; clear HOz4; clear BK110; clear HB; have HOz1 := n0_; have HOz2 := n1_; have HOz3 := n2_; have HOz4 := n3_; have HOz5 := nz1_; have BK110 := nz2_; have HB := nz3_; clear n0_ n1_ n2_ n3_ nz1_ nz2_ nz3_; clear hb hoz5; obtain ⟨Aoz5, coz5, eoz5⟩ := Kd.R_slice HOz5.out; subst eoz5) | (go_at_call 18; (with_reducible refine (fleet_within.calls k 0 2000 _ _ y128 _ _ ?side1 ?side2 A14.out).mono ?_); (case side1 => exact rC_ (Kd.R_reads' HOz5.out).2.2); (case side2 => exact (Kd.R_reads' HOz5.out).2.1); rintro e w' ⟨rfl, ⟨nd, rfl⟩⟩; obtain ⟨hczz6_0, hczz6_1, hczz6_2, hczz6_3, hczz6_4, hczz6_5, hczz6_6, hczz6_7, hczz6_8, hczz6_9, hczz6_10, hczz6_11, hczz6_12, hczz6_13, hfzz6_0, hfzz6_1, hfzz6_2, hfzz6_3, hfzz6_4, hfzz6_5, hfzz6_6, hfzz6_7, hfzz6_8, hfzz6_9, hfzz6_10, hfzz6_11, hfzz6_12, hfzz6_13⟩ := cs14_ BK110.out) | ((with_reducible refine gate_dst (N := 39) rfl ?_); (try (refine gate_guard (by rfl) ?_; dsimp only)); refine li1_ (N := 39) 3 a0_6 ?_; intro vz6 wz6 hoz6 hb; (first | rw [← Ny132.out] at hoz6 | (simp only [Int.reduceToNat] at hoz6; rw [← Ny132.out] at hoz6)); have n0_ := Aside0.mk (Kd.R_elder' (dR_ HOz1) (Kd.R_base hoz6) hb); have n1_ := Aside0.mk (Kd.R_elder' (dR_ HOz2) (Kd.R_base hoz6) hb); have n2_ := Aside0.mk (Kd.R_elder' (dR_ HOz3) (Kd.R_base hoz6) hb); have n3_ := Aside0.mk (Kd.R_elder' (dR_ HOz4) (Kd.R_base hoz6) hb); have nz1_ := Aside0.mk (Kd.R_elder' (dR_ HOz5) (Kd.R_base hoz6) hb); have nz2_ := Aside0.mk (Kd.R_lower (Kd.R_new' (Kd.R_new' (Kd.R_new' (Kd.R_new' (Kd.R_new' hoz6 (Kd.R_lt (dR_ HOz1))) (Kd.R_lt (dR_ HOz2))) (Kd.R_lt (dR_ HOz3))) (Kd.R_lt (dR_ HOz4))) (Kd.R_lt (dR_ HOz5))) (below_size (dL1_ HB GE110))); have nz3_ := bk_ BK110 hb; have nz4_ := Aside0.mk (below_step (dL1_ HB GE110) hb); clear HOz1; clear HOz2; clear HOz3; clear HOz4; clear HOz5; clear BK110; clear HB; have HOz1 := n0_; have HOz2 := n1_; have HOz3 := n2_; have HOz4 := n3_; have HOz5 := nz1_; have HOz6 := nz2_; have BK110 := nz3_; have HB := nz4_; clear n0_ n1_ n2_ n3_ nz1_ nz2_ nz3_ nz4_; clear hb hoz6; obtain ⟨Aoz6, coz6, eoz6⟩ := Kd.R_slice HOz6.out; subst eoz6) | (go_at_call 18; (with_reducible refine (fleet_within.calls k (-1) 15 _ _ y132 _ _ ?side1 ?side2 A16.out).mono ?_); (case side1 => exact rC_ (Kd.R_reads' HOz6.out).2.2); (case side2 => exact (Kd.R_reads' HOz6.out).2.1); rintro e w' ⟨rfl, ⟨nd, rfl⟩⟩; obtain ⟨hczz7_0, hczz7_1, hczz7_2, hczz7_3, hczz7_4, hczz7_5, hczz7_6, hczz7_7, hczz7_8, hczz7_9, hczz7_10, hczz7_11, hczz7_12, hczz7_13, hfzz7_0, hfzz7_1, hfzz7_2, hfzz7_3, hfzz7_4, hfzz7_5, hfzz7_6, hfzz7_7, hfzz7_8, hfzz7_9, hfzz7_10, hfzz7_11, hfzz7_12, hfzz7_13⟩ := cs14_ BK110.out) | ((with_reducible refine gate_dst (N := 45) rfl ?_); (try (refine gate_guard (by rfl) ?_; dsimp only)); refine li1_ (N := 45) 3 a0_7 ?_; intro vz7 wz7 hoz7 hb; (first | rw [← Ny136.out] at hoz7 | (simp only [Int.reduceToNat] at hoz7; rw [← Ny136.out] at hoz7)); have n0_ := Aside0.mk (Kd.R_elder' (dR_ HOz1) (Kd.R_base hoz7) hb); have n1_ := Aside0.mk (Kd.R_elder' (dR_ HOz2) (Kd.R_base hoz7) hb); have n2_ := Aside0.mk (Kd.R_elder' (dR_ HOz3) (Kd.R_base hoz7) hb); have n3_ := Aside0.mk (Kd.R_elder' (dR_ HOz4) (Kd.R_base hoz7) hb); have nz1_ := Aside0.mk (Kd.R_elder' (dR_ HOz5) (Kd.R_base hoz7) hb); have nz2_ := Aside0.mk (Kd.R_elder' (dR_ HOz6) (Kd.R_base hoz7) hb); have nz3_ := Aside0.mk (Kd.R_lower (Kd.R_new' (Kd.R_new' (Kd.R_new' (Kd.R_new' (Kd.R_new' (Kd.R_new' hoz7 (Kd.R_lt (dR_ HOz1))) (Kd.R_lt (dR_ HOz2))) (Kd.R_lt (dR_ HOz3))) (Kd.R_lt (dR_ HOz4))) (Kd.R_lt (dR_ HOz5))) (Kd.R_lt (dR_ HOz6))) (below_size (dL1_ HB GE110))); have nz4_ := bk_ BK110 hb; have nz5_ := Aside0.mk (below_step (dL1_ HB GE110) hb); clear HOz1; clear HOz2; clear HOz3; clear HOz4; clear HOz5; clear HOz6; clear BK110; clear HB; have HOz1 := n0_; have HOz2 := n1_; have HOz3 := n2_; have HOz4 := n3_; have HOz5 := nz1_; have HOz6 := nz2_; have HOz7 := nz3_; have BK110 := nz4_; have HB := nz5_; clear n0_ n1_ n2_ n3_ nz1_ nz2_ nz3_ nz4_ nz5_; clear hb hoz7; obtain ⟨Aoz7, coz7, eoz7⟩ := Kd.R_slice HOz7.out; subst eoz7) | (go_at_call 18; (with_reducible refine (fleet_within.calls k 0 1000 _ _ y136 _ _ ?side1 ?side2 A18.out).mono ?_); (case side1 => exact rC_ (Kd.R_reads' HOz7.out).2.2); (case side2 => exact (Kd.R_reads' HOz7.out).2.1); rintro e w' ⟨rfl, ⟨nd, rfl⟩⟩; obtain ⟨hczz8_0, hczz8_1, hczz8_2, hczz8_3, hczz8_4, hczz8_5, hczz8_6, hczz8_7, hczz8_8, hczz8_9, hczz8_10, hczz8_11, hczz8_12, hczz8_13, hfzz8_0, hfzz8_1, hfzz8_2, hfzz8_3, hfzz8_4, hfzz8_5, hfzz8_6, hfzz8_7, hfzz8_8, hfzz8_9, hfzz8_10, hfzz8_11, hfzz8_12, hfzz8_13⟩ := cs14_ BK110.out) | ((with_reducible refine gate_dst (N := 51) rfl ?_); (try (refine gate_guard (by rfl) ?_; dsimp only)); refine li1_ (N := 51) 3 a0_8 ?_; intro vz8 wz8 hoz8 hb; (first | rw [← Ny140.out] at hoz8 | (simp only [Int.reduceToNat] at hoz8; rw [← Ny140.out] at hoz8)); have n0_ := Aside0.mk (Kd.R_elder' (dR_ HOz1) (Kd.R_base hoz8) hb); have n1_ := Aside0.mk (Kd.R_elder' (dR_ HOz2) (Kd.R_base hoz8) hb); have n2_ := Aside0.mk (Kd.R_elder' (dR_ HOz3) (Kd.R_base hoz8) hb); have n3_ := Aside0.mk (Kd.R_elder' (dR_ HOz4) (Kd.R_base hoz8) hb); have nz1_ := Aside0.mk (Kd.R_elder' (dR_ HOz5) (Kd.R_base hoz8) hb); have nz2_ := Aside0.mk (Kd.R_elder' (dR_ HOz6) (Kd.R_base hoz8) hb); have nz3_ := Aside0.mk (Kd.R_elder' (dR_ HOz7) (Kd.R_base hoz8) hb); have nz4_ := Aside0.mk (Kd.R_lower (Kd.R_new' (Kd.R_new' (Kd.R_new' (Kd.R_new' (Kd.R_new' (Kd.R_new' (Kd.R_new' hoz8 (Kd.R_lt (dR_ HOz1))) (Kd.R_lt (dR_ HOz2))) (Kd.R_lt (dR_ HOz3))) (Kd.R_lt (dR_ HOz4))) (Kd.R_lt (dR_ HOz5))) (Kd.R_lt (dR_ HOz6))) (Kd.R_lt (dR_ HOz7))) (below_size (dL1_ HB GE110))); have nz5_ := bk_ BK110 hb; have nz6_ := Aside0.mk (below_step (dL1_ HB GE110) hb); clear HOz1; clear HOz2; clear HOz3; clear HOz4; clear HOz5; clear HOz6; clear HOz7; clear BK110; clear HB; have HOz1 := n0_; have HOz2 := n1_; have HOz3 := n2_; have HOz4 := n3_; have HOz5 := nz1_; have HOz6 := nz2_; have HOz7 := nz3_; have HOz8 := nz4_; have BK110 := nz5_; have HB := nz6_; clear n0_ n1_ n2_ n3_ nz1_ nz2_ nz3_ nz4_ nz5_ nz6_; clear hb hoz8; obtain ⟨Aoz8, coz8, eoz8⟩ := Kd.R_slice HOz8.out; subst eoz8) | (go_at_call 18; (with_reducible refine (fleet_within.calls k 1 16 _ _ y140 _ _ ?side1 ?side2 A20.out).mono ?_); (case side1 => exact rC_ (Kd.R_reads' HOz8.out).2.2); (case side2 => exact (Kd.R_reads' HOz8.out).2.1); rintro e w' ⟨rfl, ⟨nd, rfl⟩⟩; obtain ⟨hczz9_0, hczz9_1, hczz9_2, hczz9_3, hczz9_4, hczz9_5, hczz9_6, hczz9_7, hczz9_8, hczz9_9, hczz9_10, hczz9_11, hczz9_12, hczz9_13, hfzz9_0, hfzz9_1, hfzz9_2, hfzz9_3, hfzz9_4, hfzz9_5, hfzz9_6, hfzz9_7, hfzz9_8, hfzz9_9, hfzz9_10, hfzz9_11, hfzz9_12, hfzz9_13⟩ := cs14_ BK110.out) | ((with_reducible refine gate_dst (N := 59) rfl ?_); (try (refine gate_guard (by rfl) ?_; dsimp only)); refine Kd.R_lit (Kd.int .i64) _ 3 ?hg (N := 59) ?hd (xs := ([a0_9, a0_10] : List Int)) (inner := [.int .i64 a0_9, .int .i64 a0_10]) (ok := fun _ => True) (okp := fun _ => True) ?hr ?hp (fun _ hk => hk) trivial (Below.refl _ _) (Nat.le_refl _) (by simp) ?_; (case hd => rfl); (case hg => rfl); (case hr => first | (go_simp; done) | (go_simp; rfl)); (case hp => exact (Reps.one (show Kd.M (Kd.int .i64) _ _ _ a0_9 [.int .i64 a0_9] from rfl) (Reps.one (show Kd.M (Kd.int .i64) _ _ _ a0_10 [.int .i64 a0_10] from rfl) (Reps.none _ _)))); intro vz9 wz9 hoz9 hb hg_ hnew_; clear hg_ hnew_; (first | rw [← Ny144.out] at hoz9 | (simp only [Int.reduceToNat] at hoz9; rw [← Ny144.out] at hoz9)); have n0_ := Aside0.mk (Kd.R_elder' (dR_ HOz1) (Kd.R_base hoz9) hb); have n1_ := Aside0.mk (Kd.R_elder' (dR_ HOz2) (Kd.R_base hoz9) hb); have n2_ := Aside0.mk (Kd.R_elder' (dR_ HOz3) (Kd.R_base hoz9) hb); have n3_ := Aside0.mk (Kd.R_elder' (dR_ HOz4) (Kd.R_base hoz9) hb); have nz1_ := Aside0.mk (Kd.R_elder' (dR_ HOz5) (Kd.R_base hoz9) hb); have nz2_ := Aside0.mk (Kd.R_elder' (dR_ HOz6) (Kd.R_base hoz9) hb); have nz3_ := Aside0.mk (Kd.R_elder' (dR_ HOz7) (Kd.R_base hoz9) hb); have nz4_ := Aside0.mk (Kd.R_elder' (dR_ HOz8) (Kd.R_base hoz9) hb); have nz5_ := Aside0.mk (Kd.R_lower (Kd.R_new' (Kd.R_new' (Kd.R_new' (Kd.R_new' (Kd.R_new' (Kd.R_new' (Kd.R_new' (Kd.R_new' hoz9 (Kd.R_lt (dR_ HOz1))) (Kd.R_lt (dR_ HOz2))) (Kd.R_lt (dR_ HOz3))) (Kd.R_lt (dR_ HOz4))) (Kd.R_lt (dR_ HOz5))) (Kd.R_lt (dR_ HOz6))) (Kd.R_lt (dR_ HOz7))) (Kd.R_lt (dR_ HOz8))) (below_size (dL1_ HB GE110))); have nz6_ := bk_ BK110 hb; have nz7_ := Aside0.mk (below_step (dL1_ HB GE110) hb); clear HOz1; clear HOz2; clear HOz3; clear HOz4; clear HOz5; clear HOz6; clear HOz7; clear HOz8; clear BK110; clear HB; have HOz1 := n0_; have HOz2 := n1_; have HOz3 := n2_; have HOz4 := n3_; have HOz5 := nz1_; have HOz6 := nz2_; have HOz7 := nz3_; have HOz8 := nz4_; have HOz9 := nz5_; have BK110 := nz6_; have HB := nz7_; clear n0_ n1_ n2_ n3_ nz1_ nz2_ nz3_ nz4_ nz5_ nz6_ nz7_; clear hb hoz9; obtain ⟨Aoz9, coz9, eoz9⟩ := Kd.R_slice HOz9.out; subst eoz9) | (go_at_call 18; (with_reducible refine (fleet_within.calls k 0 10000000 _ _ y144 _ _ ?side1 ?side2 A22.out).mono ?_); (case side1 => exact rC_ (Kd.R_reads' HOz9.out).2.2); (case side2 => exact (Kd.R_reads' HOz9.out).2.1); rintro e w' ⟨rfl, ⟨nd, rfl⟩⟩; obtain ⟨hczz10_0, hczz10_1, hczz10_2, hczz10_3, hczz10_4, hczz10_5, hczz10_6, hczz10_7, hczz10_8, hczz10_9, hczz10_10, hczz10_11, hczz10_12, hczz10_13, hfzz10_0, hfzz10_1, hfzz10_2, hfzz10_3, hfzz10_4, hfzz10_5, hfzz10_6, hfzz10_7, hfzz10_8, hfzz10_9, hfzz10_10, hfzz10_11, hfzz10_12, hfzz10_13⟩ := cs14_ BK110.out) | ((with_reducible refine gate_dst (N := 65) rfl ?_); (try (refine gate_guard (by rfl) ?_; dsimp only)); refine li1_ (N := 65) 3 a0_11 ?_; intro vz10 wz10 hoz10 hb; (first | rw [← Ny148.out] at hoz10 | (simp only [Int.reduceToNat] at hoz10; rw [← Ny148.out] at hoz10)); have n0_ := Aside0.mk (Kd.R_elder' (dR_ HOz1) (Kd.R_base hoz10) hb); have n1_ := Aside0.mk (Kd.R_elder' (dR_ HOz2) (Kd.R_base hoz10) hb); have n2_ := Aside0.mk (Kd.R_elder' (dR_ HOz3) (Kd.R_base hoz10) hb); have n3_ := Aside0.mk (Kd.R_elder' (dR_ HOz4) (Kd.R_base hoz10) hb); have nz1_ := Aside0.mk (Kd.R_elder' (dR_ HOz5) (Kd.R_base hoz10) hb); have nz2_ := Aside0.mk (Kd.R_elder' (dR_ HOz6) (Kd.R_base hoz10) hb); have nz3_ := Aside0.mk (Kd.R_elder' (dR_ HOz7) (Kd.R_base hoz10) hb); have nz4_ := Aside0.mk (Kd.R_elder' (dR_ HOz8) (Kd.R_base hoz10) hb); have nz5_ := Aside0.mk (Kd.R_elder' (dR_ HOz9) (Kd.R_base hoz10) hb); have nz6_ := Aside0.mk (Kd.R_lower (Kd.R_new' (Kd.R_new' (Kd.R_new' (Kd.R_new' (Kd.R_new' (Kd.R_new' (Kd.R_new' (Kd.R_new' (Kd.R_new' hoz10 (Kd.R_lt (dR_ HOz1))) (Kd.R_lt (dR_ HOz2))) (Kd.R_lt (dR_ HOz3))) (Kd.R_lt (dR_ HOz4))) (Kd.R_lt (dR_ HOz5))) (Kd.R_lt (dR_ HOz6))) (Kd.R_lt (dR_ HOz7))) (Kd.R_lt (dR_ HOz8))) (Kd.R_lt (dR_ HOz9))) (below_size (dL1_ HB GE110))); have nz7_ := bk_ BK110 hb; have nz8_ := Aside0.mk (below_step (dL1_ HB GE110) hb); clear HOz1; clear HOz2; clear HOz3; clear HOz4; clear HOz5; clear HOz6; clear HOz7; clear HOz8; clear HOz9; clear BK110; clear HB; have HOz1 := n0_; have HOz2 := n1_; have HOz3 := n2_; have HOz4 := n3_; have HOz5 := nz1_; have HOz6 := nz2_; have HOz7 := nz3_; have HOz8 := nz4_; have HOz9 := nz5_; have HOz10 := nz6_; have BK110 := nz7_; have HB := nz8_; clear n0_ n1_ n2_ n3_ nz1_ nz2_ nz3_ nz4_ nz5_ nz6_ nz7_ nz8_; clear hb hoz10; obtain ⟨Aoz10, coz10, eoz10⟩ := Kd.R_slice HOz10.out; subst eoz10) | (go_at_call 18; (with_reducible refine (fleet_within.calls k 1 100 _ _ y148 _ _ ?side1 ?side2 A24.out).mono ?_); (case side1 => exact rC_ (Kd.R_reads' HOz10.out).2.2); (case side2 => exact (Kd.R_reads' HOz10.out).2.1); rintro e w' ⟨rfl, ⟨nd, rfl⟩⟩; obtain ⟨hczz11_0, hczz11_1, hczz11_2, hczz11_3, hczz11_4, hczz11_5, hczz11_6, hczz11_7, hczz11_8, hczz11_9, hczz11_10, hczz11_11, hczz11_12, hczz11_13, hfzz11_0, hfzz11_1, hfzz11_2, hfzz11_3, hfzz11_4, hfzz11_5, hfzz11_6, hfzz11_7, hfzz11_8, hfzz11_9, hfzz11_10, hfzz11_11, hfzz11_12, hfzz11_13⟩ := cs14_ BK110.out) | ((with_reducible refine gate_dst (N := 71) rfl ?_); (try (refine gate_guard (by rfl) ?_; dsimp only)); refine li1_ (N := 71) 3 a0_12 ?_; intro vz11 wz11 hoz11 hb; (first | rw [← Ny152.out] at hoz11 | (simp only [Int.reduceToNat] at hoz11; rw [← Ny152.out] at hoz11)); have n0_ := Aside0.mk (Kd.R_elder' (dR_ HOz1) (Kd.R_base hoz11) hb); have n1_ := Aside0.mk (Kd.R_elder' (dR_ HOz2) (Kd.R_base hoz11) hb); have n2_ := Aside0.mk (Kd.R_elder' (dR_ HOz3) (Kd.R_base hoz11) hb); have n3_ := Aside0.mk (Kd.R_elder' (dR_ HOz4) (Kd.R_base hoz11) hb); have nz1_ := Aside0.mk (Kd.R_elder' (dR_ HOz5) (Kd.R_base hoz11) hb); have nz2_ := Aside0.mk (Kd.R_elder' (dR_ HOz6) (Kd.R_base hoz11) hb); have nz3_ := Aside0.mk (Kd.R_elder' (dR_ HOz7) (Kd.R_base hoz11) hb); have nz4_ := Aside0.mk (Kd.R_elder' (dR_ HOz8) (Kd.R_base hoz11) hb); have nz5_ := Aside0.mk (Kd.R_elder' (dR_ HOz9) (Kd.R_base hoz11) hb); have nz6_ := Aside0.mk (Kd.R_elder' (dR_ HOz10) (Kd.R_base hoz11) hb); have nz7_ := Aside0.mk (Kd.R_lower (Kd.R_new' (Kd.R_new' (Kd.R_new' (Kd.R_new' (Kd.R_new' (Kd.R_new' (Kd.R_new' (Kd.R_new' (Kd.R_new' (Kd.R_new' hoz11 (Kd.R_lt (dR_ HOz1))) (Kd.R_lt (dR_ HOz2))) (Kd.R_lt (dR_ HOz3))) (Kd.R_lt (dR_ HOz4))) (Kd.R_lt (dR_ HOz5))) (Kd.R_lt (dR_ HOz6))) (Kd.R_lt (dR_ HOz7))) (Kd.R_lt (dR_ HOz8))) (Kd.R_lt (dR_ HOz9))) (Kd.R_lt (dR_ HOz10))) (below_size (dL1_ HB GE110))); have nz8_ := bk_ BK110 hb; have nz9_ := Aside0.mk (below_step (dL1_ HB GE110) hb); clear HOz1; clear HOz2; clear HOz3; clear HOz4; clear HOz5; clear HOz6; clear HOz7; clear HOz8; clear HOz9; clear HOz10; clear BK110; clear HB; have HOz1 := n0_; have HOz2 := n1_; have HOz3 := n2_; have HOz4 := n3_; have HOz5 := nz1_; have HOz6 := nz2_; have HOz7 := nz3_; have HOz8 := nz4_; have HOz9 := nz5_; have HOz10 := nz6_; have HOz11 := nz7_; have BK110 := nz8_; have HB := nz9_; clear n0_ n1_ n2_ n3_ nz1_ nz2_ nz3_ nz4_ nz5_ nz6_ nz7_ nz8_ nz9_; clear hb hoz11; obtain ⟨Aoz11, coz11, eoz11⟩ := Kd.R_slice HOz11.out; subst eoz11) | (go_at_call 18; (with_reducible refine (fleet_within.calls k 0 1000 _ _ y152 t155 _ ?side1 ?side2 A26.out).mono ?_); (case side1 => exact rC_ (Kd.R_reads' HOz11.out).2.2); (case side2 => exact (Kd.R_reads' HOz11.out).2.1); rintro e w' ⟨rfl, ⟨nd, rfl⟩⟩) | (go_at_call 18; (with_reducible refine (fleet_within.calls k 1 100 _ _ y148 _ _ ?side1 ?side2 A24.out).mono ?_); (case side1 => exact rC_ (Kd.R_reads' HOz10.out).2.2); (case side2 => exact (Kd.R_reads' HOz10.out).2.1); rintro e w' ⟨rfl, ⟨nd, rfl⟩⟩) | (go_at_call 18; (with_reducible refine (fleet_within.calls k 0 10000000 _ _ y144 _ _ ?side1 ?side2 A22.out).mono ?_); (case side1 => exact rC_ (Kd.R_reads' HOz9.out).2.2); (case side2 => exact (Kd.R_reads' HOz9.out).2.1); rintro e w' ⟨rfl, ⟨nd, rfl⟩⟩) | (go_at_call 18; (with_reducible refine (fleet_within.calls k 1 16 _ _ y140 _ _ ?side1 ?side2 A20.out).mono ?_); (case side1 => exact rC_ (Kd.R_reads' HOz8.out).2.2); (case side2 => exact (Kd.R_reads' HOz8.out).2.1); rintro e w' ⟨rfl, ⟨nd, rfl⟩⟩) | (go_at_call 18; (with_reducible refine (fleet_within.calls k 0 1000 _ _ y136 _ _ ?side1 ?side2 A18.out).mono ?_); (case side1 => exact rC_ (Kd.R_reads' HOz7.out).2.2); (case side2 => exact (Kd.R_reads' HOz7.out).2.1); rintro e w' ⟨rfl, ⟨nd, rfl⟩⟩) | (go_at_call 18; (with_reducible refine (fleet_within.calls k (-1) 15 _ _ y132 _ _ ?side1 ?side2 A16.out).mono ?_); (case side1 => exact rC_ (Kd.R_reads' HOz6.out).2.2); (case side2 => exact (Kd.R_reads' HOz6.out).2.1); rintro e w' ⟨rfl, ⟨nd, rfl⟩⟩) | (go_at_call 18; (with_reducible refine (fleet_within.calls k 0 2000 _ _ y128 _ _ ?side1 ?side2 A14.out).mono ?_); (case side1 => exact rC_ (Kd.R_reads' HOz5.out).2.2); (case side2 => exact (Kd.R_reads' HOz5.out).2.1); rintro e w' ⟨rfl, ⟨nd, rfl⟩⟩) | (go_at_call 18; (with_reducible refine (fleet_within.calls k 1 1000 _ _ y124 _ _ ?side1 ?side2 A12.out).mono ?_); (case side1 => exact rC_ (Kd.R_reads' HOz4.out).2.2); (case side2 => exact (Kd.R_reads' HOz4.out).2.1); rintro e w' ⟨rfl, ⟨nd, rfl⟩⟩) | (go_at_call 18; (with_reducible refine (fleet_within.calls k 0 20000 _ _ y120 _ _ ?side1 ?side2 A10.out).mono ?_); (case side1 => exact rC_ (Kd.R_reads' HOz3.out).2.2); (case side2 => exact (Kd.R_reads' HOz3.out).2.1); rintro e w' ⟨rfl, ⟨nd, rfl⟩⟩) | (go_at_call 18; (with_reducible refine (fleet_within.calls k 0 600 _ _ y116 _ _ ?side1 ?side2 A8.out).mono ?_); (case side1 => exact rC_ (Kd.R_reads' HOz2.out).2.2); (case side2 => exact (Kd.R_reads' HOz2.out).2.1); rintro e w' ⟨rfl, ⟨nd, rfl⟩⟩) | (go_at_call 18; (with_reducible refine (fleet_within.calls k 0 3 _ _ y112 _ _ ?side1 ?side2 A6.out).mono ?_); (case side1 => exact rC_ (Kd.R_reads' HOz1.out).2.2); (case side2 => exact (Kd.R_reads' HOz1.out).2.1); rintro e w' ⟨rfl, ⟨nd, rfl⟩⟩))
   first
   | (go_meet
      case rel => exact ⟨_, (false), tS_, H', ⟨by first | omega | exact Nat.le_refl _⟩, ⟨dB_ BK110⟩, ⟨dL1_ HB GE110⟩⟩)
   | (go_meet
      case rel => exact ⟨_, (t155), tS_, H', ⟨by first | omega | exact Nat.le_refl _⟩, ⟨dB_ BK110⟩, ⟨dL1_ HB GE110⟩⟩))
 case rest =>
  clear HC2; obtain ⟨kq, x2_1, rfl, HA, HJ1, BK110, HB⟩ := hcut
  cases kq with
  | zero => exact absurd HA.out (by simp [fleet_sound.j0])
  | succ kj1 =>
   have H := HA.out; clear HA; simp only [fleet_sound.j0] at H; obtain rfl := Option.some.inj H; go_wp2
   go_ret
   exact ⟨tE_, dL1_ HB GE110⟩

end Go.Proofs.Ytgnahbjpockdmab.Q
