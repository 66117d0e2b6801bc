-- PRINTED by print.py out of the translation. Not trusted: Lean checks it.
import Derived.Test.YtgnahbjpockdmabQ0
import Derived.Test.YtgnahbjpockdmabPrs
namespace Go.Proofs.Ytgnahbjpockdmab.Q
open Go.RowKit Go.Proofs.YtgnahbjpockdmabOwn Go.Proofs.YtgnahbjpockdmabW.PrintWords Go.Proofs.YtgnahbjpockdmabW.PrintLast Go.Proofs.YtgnahbjpockdmabW.PrintMore
attribute [local go_sem] max2_int min2_int max_two min_two max_three min_three max_four min_four   -- for this text's walks alone
set_option linter.unusedVariables false
set_option linter.unusedSimpArgs false

theorem eqA49 (d : Nat) (w : World) (x0 y0 : Int) (x1 y1 : Int) (x2 y2 : Int) (x3 y3 : Int) (x4 y4 : Int) (x5 y5 : Int) :
    (Op.equalIn (d + 2) 49 (.agg #[.int .i64 x0, .int .i64 x1, .int .i64 x2, .int .i64 x3, .int .i64 x4, .int .i64 x5]) (.agg #[.int .i64 y0, .int .i64 y1, .int .i64 y2, .int .i64 y3, .int .i64 y4, .int .i64 y5])).run Try.prog w = .ok (x0 == y0 && (x1 == y1 && (x2 == y2 && (x3 == y3 && (x4 == y4 && (x5 == y5)))))) w := by
  refine eqA_of Try.underlying49 (by kernel_rfl) ?_
  refine eqf_cons (by rfl) (by go_simp; rfl) (by go_simp; rfl) (by go_simp) ?_
  refine eqf_cons (by rfl) (by go_simp; rfl) (by go_simp; rfl) (by go_simp) ?_
  refine eqf_cons (by rfl) (by go_simp; rfl) (by go_simp; rfl) (by go_simp) ?_
  refine eqf_cons (by rfl) (by go_simp; rfl) (by go_simp; rfl) (by go_simp) ?_
  refine eqf_cons (by rfl) (by go_simp; rfl) (by go_simp; rfl) (by go_simp) ?_
  exact eqf_last (by rfl) (by go_simp; rfl) (by go_simp; rfl) (by go_simp)
end Go.Proofs.Ytgnahbjpockdmab.Q
namespace Go.Proofs.Ytgnahbjpockdmab.Q
open Go.RowKit Go.Proofs.YtgnahbjpockdmabPrs Go.Proofs.YtgnahbjpockdmabOwn Go.Proofs.YtgnahbjpockdmabW.PrintWords Go.Proofs.YtgnahbjpockdmabW.PrintLast Go.Proofs.YtgnahbjpockdmabW.PrintMore
attribute [local go_sem] max2_int min2_int max_two min_two max_three min_three max_four min_four   -- for this text's walks alone
set_option linter.unusedVariables false
set_option linter.unusedSimpArgs false

/-! ### hinterlandlaw14_large: function 6 -/
def hinterlandlaw14_large.l0 : Nat → List (S52) → List (S52) → Int → Int → List Int → List Int → Int → Int → Int → Int → List (S49) → Option (Bool)
  | 0, _, _, _, _, _, _, _, _, _, _, _ => none
  | k + 1, x0, x7, x8, x9, x102000, x102001, x102002, x102003, x102004, x102005, x102006 => if x9 < x8 then (if 0 ≤ x9 then (if x9 < (x7.length : Int) then (if (((rd_T52 x7 x9).f0).size : Int) > 500 then (some true) else (hinterlandlaw14_large.l0 k x0 x7 x8 (wrap64 (x9 + 1)) x102000 x102001 x102002 x102003 x102004 x102005 x102006)) else (none)) else (none)) else (if (x0.length : Int) > 500 then (some true) else (if (x102000.length : Int) > 500 then (some true) else (if (x102001.length : Int) > 500 then (some true) else (some (decide ((x102006.length : Int) > 500))))))
def hinterlandlaw14_large.f (k : Nat) (l0 : List (S52)) (l1_0 : List Int) (l1_1 : List Int) (a1_2 : Int) (a1_3 : Int) (a1_4 : Int) (a1_5 : Int) (l1_6 : List (S49)) : Option (Bool) := hinterlandlaw14_large.l0 k l0 l0 (l0.length : Int) 0 l1_0 l1_1 a1_2 a1_3 a1_4 a1_5 l1_6
theorem hinterlandlaw14_large.mono_l : ∀ k, (∀ y0 y1 y2 y3 y4 y5 y6 y7 y8 y9 y10, LeO (hinterlandlaw14_large.l0 k y0 y1 y2 y3 y4 y5 y6 y7 y8 y9 y10) (hinterlandlaw14_large.l0 (k + 1) y0 y1 y2 y3 y4 y5 y6 y7 y8 y9 y10))
  | 0 => fun _ _ _ _ _ _ _ _ _ _ _ r h => by simp [hinterlandlaw14_large.l0] at h
  | k + 1 => by
    have ih0 := hinterlandlaw14_large.mono_l k
    · intro y0 y1 y2 y3 y4 y5 y6 y7 y8 y9 y10
      unfold hinterlandlaw14_large.l0
      repeat' first
      | (with_reducible first | exact ih0 _ _ _ _ _ _ _ _ _ _ _ | exact LeO.refl _ | exact LeO.none _ | refine LeO.ite ?_ ?_ | refine LeO.bind ?_ (fun _ => ?_))
      | exact ih0 _ _ _ _ _ _ _ _ _ _ _
      | exact LeO.none _
      | refine LeO.ite ?_ ?_
      | refine LeO.bind ?_ (fun _ => ?_)
theorem hinterlandlaw14_large.mono : ∀ a0 a1 a2 a3 a4 a5 a6 a7 k, LeO (hinterlandlaw14_large.f k a0 a1 a2 a3 a4 a5 a6 a7) (hinterlandlaw14_large.f (k + 1) a0 a1 a2 a3 a4 a5 a6 a7) := by
  intro a0 a1 a2 a3 a4 a5 a6 a7 k
  have ih0 := hinterlandlaw14_large.mono_l k
  unfold hinterlandlaw14_large.f
  repeat' first
      | (with_reducible first | exact ih0 _ _ _ _ _ _ _ _ _ _ _ | exact LeO.refl _ | exact LeO.none _ | refine LeO.ite ?_ ?_ | refine LeO.bind ?_ (fun _ => ?_))
      | exact ih0 _ _ _ _ _ _ _ _ _ _ _
      | exact LeO.none _
      | refine LeO.ite ?_ ?_
      | refine LeO.bind ?_ (fun _ => ?_)
set_option maxHeartbeats 8000000 in
set_option maxRecDepth 100000 in
theorem hinterlandlaw14_large.calls (k : Nat) (A0 : Option Addr) (c0 : Nat) (l0 : List (S52)) (A1_0 : Option Addr) (c1_0 : Nat) (l1_0 : List Int) (A1_1 : Option Addr) (c1_1 : Nat) (l1_1 : List Int) (a1_2 : Int) (a1_3 : Int) (a1_4 : Int) (a1_5 : Int) (A1_6 : Option Addr) (c1_6 : Nat) (l1_6 : List (S49)) (r : Bool) (w : World) (hr0 : Kd.C k52 w A0 l0.length l0) (hc0 : l0.length ≤ c0) (hr1_0 : Kd.C (Kd.int .i64) w A1_0 l1_0.length l1_0) (hc1_0 : l1_0.length ≤ c1_0) (hr1_1 : Kd.C (Kd.int .i64) w A1_1 l1_1.length l1_1) (hc1_1 : l1_1.length ≤ c1_1) (hr1_6 : Kd.C k49 w A1_6 l1_6.length l1_6) (hc1_6 : l1_6.length ≤ c1_6) (h : hinterlandlaw14_large.f k l0 l1_0 l1_1 a1_2 a1_3 a1_4 a1_5 l1_6 = some r) :
    Calls Try.prog 6 #[.slice A0 l0.length c0, .agg #[.slice A1_0 l1_0.length c1_0, .slice A1_1 l1_1.length c1_1, .int .i64 a1_2, .int .i64 a1_3, .int .i64 a1_4, .int .i64 a1_5, .slice A1_6 l1_6.length c1_6]] w fun e w' => e = .returned (.bool r) ∧ Below w.heap.size w w' := by
 have hu26 := Try.underlying26
 have hu52 := Try.underlying52
 have HR0 := Aside0.mk hr0
 have HC0 := Aside0.mk hc0
 clear hr0 hc0
 have HR1_0 := Aside0.mk hr1_0
 have HC1_0 := Aside0.mk hc1_0
 clear hr1_0 hc1_0
 have HR1_1 := Aside0.mk hr1_1
 have HC1_1 := Aside0.mk hc1_1
 clear hr1_1 hc1_1
 have HR1_6 := Aside0.mk hr1_6
 have HC1_6 := Aside0.mk hc1_6
 clear hr1_6 hc1_6
 have HB := Aside0.mk (Below.refl w.heap.size w)
 have H : (hinterlandlaw14_large.l0 k l0 l0 (l0.length : Int) 0 l1_0 l1_1 a1_2 a1_3 a1_4 a1_5 l1_6) = some r := h
 clear h
 have H' := Aside0.mk H
 clear H
 go_enter Try.func6, Try.ntmps6
 go_wp2_with (first | ((with_reducible refine gate_dst (N := 3) rfl ?_); (try (refine gate_guard (by rfl) ?_; dsimp only)); refine box_event ?hg (N := 3) ?hd (cs := #[.slice A1_0 l1_0.length c1_0, .slice A1_1 l1_1.length c1_1, .int .i64 a1_2, .int .i64 a1_3, .int .i64 a1_4, .int .i64 a1_5, .slice A1_6 l1_6.length c1_6]) (t := 26) ?hr ?_; (case hd => rfl); (case hg => rfl); (case hr => first | (go_simp; done) | (go_simp; rfl)); intro gb101 hg w3 hbox hb; have BK101 := Aside0.mk (hbox); have GW101 := Aside0.mk ((dS_ hg (dL_ HB) : w.heap.size ≤ gb101)); have GE101 := Aside0.mk ((dS_ hg (dL_ HB) : w.heap.size ≤ gb101)); replace HB := Aside0.mk (below_step (dL_ HB) hb); clear hb hbox hg))
 go_loopg [9] k (fun kq v9 w' => ∃ (x9_1 : Int), v9 = .int .i64 x9_1 ∧ Aside0 (hinterlandlaw14_large.l0 kq l0 l0 (l0.length : Int) x9_1 l1_0 l1_1 a1_2 a1_3 a1_4 a1_5 l1_6 = some r) ∧ Aside0 (kq ≤ k) ∧ Aside0 (w'.heap[gb101]? = some (.cells #[(.slice A1_0 l1_0.length c1_0), (.slice A1_1 l1_1.length c1_1), .int .i64 a1_2, .int .i64 a1_3, .int .i64 a1_4, .int .i64 a1_5, (.slice A1_6 l1_6.length c1_6)] 26 (0, 0))) ∧ Aside0 (Below w.heap.size w w'))
 case atStart => exact ⟨(0), tS_, H', ⟨Nat.le_refl _⟩, ⟨dB_ BK101⟩, ⟨dL1_ HB GE101⟩⟩
 case round =>
  clear H'
  obtain ⟨x9_1, rfl, HA, HK1, BK101, HB⟩ := hrel
  cases gk with
  | zero => exact absurd HA.out (by simp [hinterlandlaw14_large.l0])
  | succ k1 =>
   have H := HA.out
   clear HA
   simp only [hinterlandlaw14_large.l0] at H
   by_cases c4 : x9_1 < (l0.length : Int)
   ·rw [if_pos c4] at H
    have c4b0 : decide (x9_1 < (l0.length : Int)) = true := decide_eq_true c4
    clear c4
    by_cases c5 : 0 ≤ x9_1
    ·rw [if_pos c5] at H
     have c5b0 : decide (0 ≤ x9_1) = true := decide_eq_true c5
     clear c5
     by_cases c6 : x9_1 < (l0.length : Int)
     ·rw [if_pos c6] at H
      have c6b0 : decide (x9_1 < (l0.length : Int)) = true := decide_eq_true c6
      clear c6
      by_cases c7 : (((rd_T52 l0 x9_1).f0).size : Int) > 500
      ·rw [if_pos c7] at H
       have c7b0 : decide (500 < (((rd_T52 l0 x9_1).f0).size : Int)) = true := decide_eq_true c7
       have c7b1 : decide (500 < ((rd_T52 l0 x9_1).f0).size) = true := decide_eq_true (by omega)
       clear c7
       obtain rfl := Option.some.inj H
       have p102 : 0 ≤ (x9_1 : Int) := of_decide_eq_true tW_
       have q102 : x9_1 < (l0.length : Int) := of_decide_eq_true tW_
       obtain ⟨ad102, e102, hx102_0, hx102_1, hx102_2, hx102_3, hx102_4, hx102_5, hx102_6, hx102_7, hx102_8, hx102_9, hx102_10, hx102_11, hx102_12, hx102_13⟩ := at_T52 HR0.out x9_1 p102 q102
       cases e102
       replace hx102_0 := bc_ HB hx102_0
       replace hx102_1 := bc_ HB hx102_1
       replace hx102_2 := bc_ HB hx102_2
       replace hx102_3 := bc_ HB hx102_3
       replace hx102_4 := bc_ HB hx102_4
       replace hx102_5 := bc_ HB hx102_5
       replace hx102_6 := bc_ HB hx102_6
       replace hx102_7 := bc_ HB hx102_7
       replace hx102_8 := bc_ HB hx102_8
       replace hx102_9 := bc_ HB hx102_9
       replace hx102_10 := bc_ HB hx102_10
       replace hx102_11 := bc_ HB hx102_11
       replace hx102_12 := bc_ HB hx102_12
       replace hx102_13 := bc_ HB hx102_13
       replace p102 := eq_true p102
       replace q102 := eq_true q102
       go_wp2_with (first | ((with_reducible refine gate_dst (N := 6) rfl ?_); (try (refine gate_guard (by rfl) ?_; dsimp only)); refine box_event ?hg (N := 6) ?hd (cs := #[.string (⟨#[]⟩ : ByteArray), .int .i64 0, .int .i64 0, .int .i64 0, .int .i64 0, .int .i64 0, .int .i64 0, .int .i64 0, .int .i64 0, .int .i64 0, .int .i64 0, .int .i64 0, .int .i64 0, .bool false]) (t := 52) ?hr ?_; (case hd => rfl); (case hg => rfl); (case hr => first | (go_simp; done) | (go_simp; rfl)); intro gb103 hg w8 hbox hb; have BK103 := Aside0.mk (hbox); have GW103 := Aside0.mk ((dS_ hg (dL1_ HB GE101) : w.heap.size ≤ gb103)); have GE103 := Aside0.mk ((dS_ hg (dL1_ HB GE101) : w.heap.size ≤ gb103)); replace HB := Aside0.mk (below_step (dL1_ HB GE101) hb); have NB101_103 := Aside0.mk ((by rw [hg]; exact Nat.ne_of_lt (blk_lt (dB_ BK101)) : gb101 ≠ gb103)); have NB103_101 := Aside0.mk ((by rw [hg]; exact Nat.ne_of_gt (blk_lt (dB_ BK101)) : gb103 ≠ gb101)); replace BK101 := Aside0.mk (blk_below (g := gb101) (o := .cells #[.slice A1_0 l1_0.length c1_0, .slice A1_1 l1_1.length c1_1, .int .i64 a1_2, .int .i64 a1_3, .int .i64 a1_4, .int .i64 a1_5, .slice A1_6 l1_6.length c1_6] 26 (0, 0)) (dB_ BK101) hb); clear hb hbox hg; have hnb9 := NB103_101.out; have hnc9 := NB101_103.out; obtain ⟨hcz10_0, hcz10_1, hcz10_2, hcz10_3, hcz10_4, hcz10_5, hcz10_6, hcz10_7, hcz10_8, hcz10_9, hcz10_10, hcz10_11, hcz10_12, hcz10_13, hfz10_0, hfz10_1, hfz10_2, hfz10_3, hfz10_4, hfz10_5, hfz10_6, hfz10_7, hfz10_8, hfz10_9, hfz10_10, hfz10_11, hfz10_12, hfz10_13⟩ := cs14_ BK103.out))
       go_ret
       exact ⟨tE_, dL2_ HB GE101 GE103⟩
      ·rw [if_neg c7] at H
       have c7b0 : decide (500 < (((rd_T52 l0 x9_1).f0).size : Int)) = false := decide_eq_false c7
       have c7b1 : decide (500 < ((rd_T52 l0 x9_1).f0).size) = false := decide_eq_false (by omega)
       clear c7
       have H' := Aside0.mk H
       clear H
       have p102 : 0 ≤ (x9_1 : Int) := of_decide_eq_true tW_
       have q102 : x9_1 < (l0.length : Int) := of_decide_eq_true tW_
       obtain ⟨ad102, e102, hx102_0, hx102_1, hx102_2, hx102_3, hx102_4, hx102_5, hx102_6, hx102_7, hx102_8, hx102_9, hx102_10, hx102_11, hx102_12, hx102_13⟩ := at_T52 HR0.out x9_1 p102 q102
       cases e102
       replace hx102_0 := bc_ HB hx102_0
       replace hx102_1 := bc_ HB hx102_1
       replace hx102_2 := bc_ HB hx102_2
       replace hx102_3 := bc_ HB hx102_3
       replace hx102_4 := bc_ HB hx102_4
       replace hx102_5 := bc_ HB hx102_5
       replace hx102_6 := bc_ HB hx102_6
       replace hx102_7 := bc_ HB hx102_7
       replace hx102_8 := bc_ HB hx102_8
       replace hx102_9 := bc_ HB hx102_9
       replace hx102_10 := bc_ HB hx102_10
       replace hx102_11 := bc_ HB hx102_11
       replace hx102_12 := bc_ HB hx102_12
       replace hx102_13 := bc_ HB hx102_13
       replace p102 := eq_true p102
       replace q102 := eq_true q102
       go_wp2_with (first | ((with_reducible refine gate_dst (N := 6) rfl ?_); (try (refine gate_guard (by rfl) ?_; dsimp only)); refine box_event ?hg (N := 6) ?hd (cs := #[.string (⟨#[]⟩ : ByteArray), .int .i64 0, .int .i64 0, .int .i64 0, .int .i64 0, .int .i64 0, .int .i64 0, .int .i64 0, .int .i64 0, .int .i64 0, .int .i64 0, .int .i64 0, .int .i64 0, .bool false]) (t := 52) ?hr ?_; (case hd => rfl); (case hg => rfl); (case hr => first | (go_simp; done) | (go_simp; rfl)); intro gb103 hg w11 hbox hb; have BK103 := Aside0.mk (hbox); have GW103 := Aside0.mk ((dS_ hg (dL1_ HB GE101) : w.heap.size ≤ gb103)); have GE103 := Aside0.mk ((dS_ hg (dL1_ HB GE101) : w.heap.size ≤ gb103)); replace HB := Aside0.mk (below_step (dL1_ HB GE101) hb); have NB101_103 := Aside0.mk ((by rw [hg]; exact Nat.ne_of_lt (blk_lt (dB_ BK101)) : gb101 ≠ gb103)); have NB103_101 := Aside0.mk ((by rw [hg]; exact Nat.ne_of_gt (blk_lt (dB_ BK101)) : gb103 ≠ gb101)); replace BK101 := Aside0.mk (blk_below (g := gb101) (o := .cells #[.slice A1_0 l1_0.length c1_0, .slice A1_1 l1_1.length c1_1, .int .i64 a1_2, .int .i64 a1_3, .int .i64 a1_4, .int .i64 a1_5, .slice A1_6 l1_6.length c1_6] 26 (0, 0)) (dB_ BK101) hb); clear hb hbox hg; have hnb12 := NB103_101.out; have hnc12 := NB101_103.out; obtain ⟨hcz13_0, hcz13_1, hcz13_2, hcz13_3, hcz13_4, hcz13_5, hcz13_6, hcz13_7, hcz13_8, hcz13_9, hcz13_10, hcz13_11, hcz13_12, hcz13_13, hfz13_0, hfz13_1, hfz13_2, hfz13_3, hfz13_4, hfz13_5, hfz13_6, hfz13_7, hfz13_8, hfz13_9, hfz13_10, hfz13_11, hfz13_12, hfz13_13⟩ := cs14_ BK103.out))
       go_roundg k1
       case measure => have := HK1.out; omega
       case rel => exact ⟨(wrap64 (x9_1 + 1)), tS_, H', ⟨by have := HK1.out; omega⟩, ⟨dF14_ BK101 NB101_103⟩, ⟨dL2_ HB GE101 GE103⟩⟩
     ·rw [if_neg c6] at H
      exact absurd H (by simp)
    ·rw [if_neg c5] at H
     exact absurd H (by simp)
   ·rw [if_neg c4] at H
    have c4b0 : decide (x9_1 < (l0.length : Int)) = false := decide_eq_false c4
    clear c4
    by_cases c14 : (l0.length : Int) > 500
    ·rw [if_pos c14] at H
     have c14b0 : decide (500 < (l0.length : Int)) = true := decide_eq_true c14
     have c14b1 : decide (500 < l0.length) = true := decide_eq_true (by omega)
     clear c14
     obtain rfl := Option.some.inj H
     go_wp2
     go_ret
     exact ⟨tE_, dL1_ HB GE101⟩
    ·rw [if_neg c14] at H
     have c14b0 : decide (500 < (l0.length : Int)) = false := decide_eq_false c14
     have c14b1 : decide (500 < l0.length) = false := decide_eq_false (by omega)
     clear c14
     by_cases c15 : (l1_0.length : Int) > 500
     ·rw [if_pos c15] at H
      have c15b0 : decide (500 < (l1_0.length : Int)) = true := decide_eq_true c15
      have c15b1 : decide (500 < l1_0.length) = true := decide_eq_true (by omega)
      clear c15
      obtain rfl := Option.some.inj H
      obtain ⟨hcz16_0, hcz16_1, hcz16_2, hcz16_3, hcz16_4, hcz16_5, hcz16_6, hfz16_0, hfz16_1, hfz16_2, hfz16_3, hfz16_4, hfz16_5, hfz16_6⟩ := cs7_ BK101.out
      go_wp2
      go_ret
      exact ⟨tE_, dL1_ HB GE101⟩
     ·rw [if_neg c15] at H
      have c15b0 : decide (500 < (l1_0.length : Int)) = false := decide_eq_false c15
      have c15b1 : decide (500 < l1_0.length) = false := decide_eq_false (by omega)
      clear c15
      by_cases c17 : (l1_1.length : Int) > 500
      ·rw [if_pos c17] at H
       have c17b0 : decide (500 < (l1_1.length : Int)) = true := decide_eq_true c17
       have c17b1 : decide (500 < l1_1.length) = true := decide_eq_true (by omega)
       clear c17
       obtain rfl := Option.some.inj H
       obtain ⟨hcz18_0, hcz18_1, hcz18_2, hcz18_3, hcz18_4, hcz18_5, hcz18_6, hfz18_0, hfz18_1, hfz18_2, hfz18_3, hfz18_4, hfz18_5, hfz18_6⟩ := cs7_ BK101.out
       go_wp2
       go_ret
       exact ⟨tE_, dL1_ HB GE101⟩
      ·rw [if_neg c17] at H
       have c17b0 : decide (500 < (l1_1.length : Int)) = false := decide_eq_false c17
       have c17b1 : decide (500 < l1_1.length) = false := decide_eq_false (by omega)
       clear c17
       obtain rfl := Option.some.inj H
       obtain ⟨hcz19_0, hcz19_1, hcz19_2, hcz19_3, hcz19_4, hcz19_5, hcz19_6, hfz19_0, hfz19_1, hfz19_2, hfz19_3, hfz19_4, hfz19_5, hfz19_6⟩ := cs7_ BK101.out
       go_wp2
       go_ret
       exact ⟨tE_, dL1_ HB GE101⟩

end Go.Proofs.Ytgnahbjpockdmab.Q
namespace Go.Proofs.Ytgnahbjpockdmab.Q
open Go.RowKit Go.Proofs.YtgnahbjpockdmabPrs Go.Proofs.YtgnahbjpockdmabOwn Go.Proofs.YtgnahbjpockdmabW.PrintWords Go.Proofs.YtgnahbjpockdmabW.PrintLast Go.Proofs.YtgnahbjpockdmabW.PrintMore
attribute [local go_sem] max2_int min2_int max_two min_two max_three min_three max_four min_four   -- for this text's walks alone
set_option linter.unusedVariables false
set_option linter.unusedSimpArgs false

/-! ### fleet_fits: function 22 -/
mutual
def fleet_fits.l0 : Nat → List (S52) → List Int → List Int → Int → Int → ByteArray → Int → Int → Int → Int → Int → Int → Int → Int → Int → Int → Int → Int → Bool → Option (Int)
  | 0, _, _, _, _, _, _, _, _, _, _, _, _, _, _, _, _, _, _, _ => none
  | k + 1, x0, x1, x14, x15, x16, x107000, x107001, x107002, x107003, x107004, x107005, x107006, x107007, x107008, x107009, x107010, x107011, x107012, x107013 => if x16 < x15 then (if 0 ≤ x16 then (if x16 < (x14.length : Int) then (if 0 ≤ (rd x14 x16) then (if (rd x14 x16) < (x0.length : Int) then (if ((rd_T52 x0 (rd x14 x16)).f1) = x107001 then (fleet_fits.l0 k x0 x1 x14 x15 (wrap64 (x16 + 1)) x107000 x107001 x107002 x107003 x107004 x107005 x107006 x107007 x107008 x107009 x107010 x107011 x107012 x107013) else (some 8)) else (none)) else (none)) else (none)) else (none)) else (if x107001 = 0 then (if x107003 = 0 then (fleet_fits.j1 k true) else (fleet_fits.j1 k false)) else (fleet_fits.j1 k (decide ((x1.length : Int) > 1))))
def fleet_fits.j1 : Nat → Bool → Option (Int)
  | 0, _ => none
  | k + 1, x46 => if x46 = true then (some 8) else (some 0)
end
def fleet_fits.f (k : Nat) (l0 : List (S52)) (l1 : List Int) : Option (Int) := if 0 < (l1.length : Int) then (if 0 ≤ (rd l1 0) then (if (rd l1 0) < (l0.length : Int) then (fleet_fits.l0 k l0 l1 l1 (l1.length : Int) 0 ((rd_T52 l0 (rd l1 0)).f0) ((rd_T52 l0 (rd l1 0)).f1) ((rd_T52 l0 (rd l1 0)).f2) ((rd_T52 l0 (rd l1 0)).f3) ((rd_T52 l0 (rd l1 0)).f4) ((rd_T52 l0 (rd l1 0)).f5) ((rd_T52 l0 (rd l1 0)).f6) ((rd_T52 l0 (rd l1 0)).f7) ((rd_T52 l0 (rd l1 0)).f8) ((rd_T52 l0 (rd l1 0)).f9) ((rd_T52 l0 (rd l1 0)).f10) ((rd_T52 l0 (rd l1 0)).f11) ((rd_T52 l0 (rd l1 0)).f12) ((rd_T52 l0 (rd l1 0)).f13)) else (none)) else (none)) else (none)
theorem fleet_fits.mono_l : ∀ k, (∀ y0 y1 y2 y3 y4 y5 y6 y7 y8 y9 y10 y11 y12 y13 y14 y15 y16 y17 y18, LeO (fleet_fits.l0 k y0 y1 y2 y3 y4 y5 y6 y7 y8 y9 y10 y11 y12 y13 y14 y15 y16 y17 y18) (fleet_fits.l0 (k + 1) y0 y1 y2 y3 y4 y5 y6 y7 y8 y9 y10 y11 y12 y13 y14 y15 y16 y17 y18)) ∧ (∀ y0, LeO (fleet_fits.j1 k y0) (fleet_fits.j1 (k + 1) y0))
  | 0 => ⟨fun _ _ _ _ _ _ _ _ _ _ _ _ _ _ _ _ _ _ _ r h => by simp [fleet_fits.l0] at h, fun _ r h => by simp [fleet_fits.j1] at h⟩
  | k + 1 => by
    obtain ⟨ih0, ih1⟩ := fleet_fits.mono_l k
    refine ⟨?_, ?_⟩
    · intro y0 y1 y2 y3 y4 y5 y6 y7 y8 y9 y10 y11 y12 y13 y14 y15 y16 y17 y18
      unfold fleet_fits.l0
      repeat' first
      | (with_reducible first | exact ih0 _ _ _ _ _ _ _ _ _ _ _ _ _ _ _ _ _ _ _ | exact ih1 _ | exact LeO.refl _ | exact LeO.none _ | refine LeO.ite ?_ ?_ | refine LeO.bind ?_ (fun _ => ?_))
      | exact ih0 _ _ _ _ _ _ _ _ _ _ _ _ _ _ _ _ _ _ _
      | exact ih1 _
      | exact LeO.none _
      | refine LeO.ite ?_ ?_
      | refine LeO.bind ?_ (fun _ => ?_)
    · intro y0
      unfold fleet_fits.j1
      repeat' first
      | (with_reducible first | exact ih0 _ _ _ _ _ _ _ _ _ _ _ _ _ _ _ _ _ _ _ | exact ih1 _ | exact LeO.refl _ | exact LeO.none _ | refine LeO.ite ?_ ?_ | refine LeO.bind ?_ (fun _ => ?_))
      | exact ih0 _ _ _ _ _ _ _ _ _ _ _ _ _ _ _ _ _ _ _
      | exact ih1 _
      | exact LeO.none _
      | refine LeO.ite ?_ ?_
      | refine LeO.bind ?_ (fun _ => ?_)
theorem fleet_fits.mono : ∀ a0 a1 k, LeO (fleet_fits.f k a0 a1) (fleet_fits.f (k + 1) a0 a1) := by
  intro a0 a1 k
  obtain ⟨ih0, ih1⟩ := fleet_fits.mono_l k
  unfold fleet_fits.f
  repeat' first
      | (with_reducible first | exact ih0 _ _ _ _ _ _ _ _ _ _ _ _ _ _ _ _ _ _ _ | exact ih1 _ | exact LeO.refl _ | exact LeO.none _ | refine LeO.ite ?_ ?_ | refine LeO.bind ?_ (fun _ => ?_))
      | exact ih0 _ _ _ _ _ _ _ _ _ _ _ _ _ _ _ _ _ _ _
      | exact ih1 _
      | exact LeO.none _
      | refine LeO.ite ?_ ?_
      | refine LeO.bind ?_ (fun _ => ?_)
set_option maxHeartbeats 8000000 in
set_option maxRecDepth 100000 in
theorem fleet_fits.calls (k : Nat) (A0 : Option Addr) (c0 : Nat) (l0 : List (S52)) (A1 : Option Addr) (c1 : Nat) (l1 : List Int) (r : Int) (w : World) (hr0 : Kd.C k52 w A0 l0.length l0) (hc0 : l0.length ≤ c0) (hr1 : Kd.C (Kd.int .i64) w A1 l1.length l1) (hc1 : l1.length ≤ c1) (h : fleet_fits.f k l0 l1 = some r) :
    Calls Try.prog 22 #[.slice A0 l0.length c0, .slice A1 l1.length c1] w fun e w' => e = .returned (.int .i64 r) ∧ Below w.heap.size w w' := by
 have hu52 := Try.underlying52
 have HR0 := Aside0.mk hr0
 have HC0 := Aside0.mk hc0
 clear hr0 hc0
 have HR1 := Aside0.mk hr1
 have HC1 := Aside0.mk hc1
 clear hr1 hc1
 have HB := Aside0.mk (Below.refl w.heap.size w)
 have H : (if 0 < (l1.length : Int) then (if 0 ≤ (rd l1 0) then (if (rd l1 0) < (l0.length : Int) then (fleet_fits.l0 k l0 l1 l1 (l1.length : Int) 0 ((rd_T52 l0 (rd l1 0)).f0) ((rd_T52 l0 (rd l1 0)).f1) ((rd_T52 l0 (rd l1 0)).f2) ((rd_T52 l0 (rd l1 0)).f3) ((rd_T52 l0 (rd l1 0)).f4) ((rd_T52 l0 (rd l1 0)).f5) ((rd_T52 l0 (rd l1 0)).f6) ((rd_T52 l0 (rd l1 0)).f7) ((rd_T52 l0 (rd l1 0)).f8) ((rd_T52 l0 (rd l1 0)).f9) ((rd_T52 l0 (rd l1 0)).f10) ((rd_T52 l0 (rd l1 0)).f11) ((rd_T52 l0 (rd l1 0)).f12) ((rd_T52 l0 (rd l1 0)).f13)) else (none)) else (none)) else (none)) = some r := h
 clear h
 by_cases c3 : 0 < (l1.length : Int)
 ·rw [if_pos c3] at H
  have c3b0 : decide (0 < (l1.length : Int)) = true := decide_eq_true c3
  have c3b1 : decide (0 < l1.length) = true := decide_eq_true (by omega)
  clear c3
  by_cases c4 : 0 ≤ (rd l1 0)
  ·rw [if_pos c4] at H
   have c4b0 : decide (0 ≤ (rd l1 0)) = true := decide_eq_true c4
   clear c4
   by_cases c5 : (rd l1 0) < (l0.length : Int)
   ·rw [if_pos c5] at H
    have c5b0 : decide ((rd l1 0) < (l0.length : Int)) = true := decide_eq_true c5
    clear c5
    have H' := Aside0.mk H
    clear H
    have p104 : 0 ≤ (0 : Int) := (by omega)
    have q104 : 0 < (l1.length : Int) := of_decide_eq_true tW_
    obtain ⟨ad104, e104, hx104_0⟩ := Kd.at_int HR1.out 0 p104 q104
    cases e104
    have qi104 : (0 < l1.length) = True := eq_true (by omega)
    (try rw [show ((0 : Int)).toNat = 0 from rfl] at hx104_0)
    (try rw [Addr.add_zero'] at hx104_0)
    replace p104 := eq_true p104
    replace q104 := eq_true q104
    have p105 : 0 ≤ ((rd l1 0) : Int) := of_decide_eq_true tW_
    have q105 : (rd l1 0) < (l0.length : Int) := of_decide_eq_true tW_
    obtain ⟨ad105, e105, hx105_0, hx105_1, hx105_2, hx105_3, hx105_4, hx105_5, hx105_6, hx105_7, hx105_8, hx105_9, hx105_10, hx105_11, hx105_12, hx105_13⟩ := at_T52 HR0.out (rd l1 0) p105 q105
    cases e105
    replace p105 := eq_true p105
    replace q105 := eq_true q105
    go_enter Try.func22, Try.ntmps22
    go_wp2_with (first | ((with_reducible refine gate_dst (N := 5) rfl ?_); (try (refine gate_guard (by rfl) ?_; dsimp only)); refine box_event ?hg (N := 5) ?hd (cs := #[.string (⟨#[]⟩ : ByteArray), .int .i64 0, .int .i64 0, .int .i64 0, .int .i64 0, .int .i64 0, .int .i64 0, .int .i64 0, .int .i64 0, .int .i64 0, .int .i64 0, .int .i64 0, .int .i64 0, .bool false]) (t := 52) ?hr ?_; (case hd => rfl); (case hg => rfl); (case hr => first | (go_simp; done) | (go_simp; rfl)); intro gb106 hg w6 hbox hb; have BK106 := Aside0.mk (hbox); have GW106 := Aside0.mk ((dS_ hg (dL_ HB) : w.heap.size ≤ gb106)); have GE106 := Aside0.mk ((dS_ hg (dL_ HB) : w.heap.size ≤ gb106)); replace HB := Aside0.mk (below_step (dL_ HB) hb); clear hb hbox hg; obtain ⟨hcz7_0, hcz7_1, hcz7_2, hcz7_3, hcz7_4, hcz7_5, hcz7_6, hcz7_7, hcz7_8, hcz7_9, hcz7_10, hcz7_11, hcz7_12, hcz7_13, hfz7_0, hfz7_1, hfz7_2, hfz7_3, hfz7_4, hfz7_5, hfz7_6, hfz7_7, hfz7_8, hfz7_9, hfz7_10, hfz7_11, hfz7_12, hfz7_13⟩ := cs14_ BK106.out))
    repeat (go_quiet (first | ((with_reducible refine gate_dst (N := 5) rfl ?_); (try (refine gate_guard (by rfl) ?_; dsimp only)); refine box_event ?hg (N := 5) ?hd (cs := #[.string (⟨#[]⟩ : ByteArray), .int .i64 0, .int .i64 0, .int .i64 0, .int .i64 0, .int .i64 0, .int .i64 0, .int .i64 0, .int .i64 0, .int .i64 0, .int .i64 0, .int .i64 0, .int .i64 0, .bool false]) (t := 52) ?hr ?_; (case hd => rfl); (case hg => rfl); (case hr => first | (go_simp; done) | (go_simp; rfl)); intro gb106 hg w6 hbox hb; have BK106 := Aside0.mk (hbox); have GW106 := Aside0.mk ((dS_ hg (dL_ HB) : w.heap.size ≤ gb106)); have GE106 := Aside0.mk ((dS_ hg (dL_ HB) : w.heap.size ≤ gb106)); replace HB := Aside0.mk (below_step (dL_ HB) hb); clear hb hbox hg; obtain ⟨hcz7_0, hcz7_1, hcz7_2, hcz7_3, hcz7_4, hcz7_5, hcz7_6, hcz7_7, hcz7_8, hcz7_9, hcz7_10, hcz7_11, hcz7_12, hcz7_13, hfz7_0, hfz7_1, hfz7_2, hfz7_3, hfz7_4, hfz7_5, hfz7_6, hfz7_7, hfz7_8, hfz7_9, hfz7_10, hfz7_11, hfz7_12, hfz7_13⟩ := cs14_ BK106.out)); try go_wp2_with (first | ((with_reducible refine gate_dst (N := 5) rfl ?_); (try (refine gate_guard (by rfl) ?_; dsimp only)); refine box_event ?hg (N := 5) ?hd (cs := #[.string (⟨#[]⟩ : ByteArray), .int .i64 0, .int .i64 0, .int .i64 0, .int .i64 0, .int .i64 0, .int .i64 0, .int .i64 0, .int .i64 0, .int .i64 0, .int .i64 0, .int .i64 0, .int .i64 0, .bool false]) (t := 52) ?hr ?_; (case hd => rfl); (case hg => rfl); (case hr => first | (go_simp; done) | (go_simp; rfl)); intro gb106 hg w6 hbox hb; have BK106 := Aside0.mk (hbox); have GW106 := Aside0.mk ((dS_ hg (dL_ HB) : w.heap.size ≤ gb106)); have GE106 := Aside0.mk ((dS_ hg (dL_ HB) : w.heap.size ≤ gb106)); replace HB := Aside0.mk (below_step (dL_ HB) hb); clear hb hbox hg; obtain ⟨hcz7_0, hcz7_1, hcz7_2, hcz7_3, hcz7_4, hcz7_5, hcz7_6, hcz7_7, hcz7_8, hcz7_9, hcz7_10, hcz7_11, hcz7_12, hcz7_13, hfz7_0, hfz7_1, hfz7_2, hfz7_3, hfz7_4, hfz7_5, hfz7_6, hfz7_7, hfz7_8, hfz7_9, hfz7_10, hfz7_11, hfz7_12, hfz7_13⟩ := cs14_ BK106.out)))
    go_loopg [16] k (fun kq v16 w' => ∃ (x16_1 : Int), v16 = .int .i64 x16_1 ∧ Aside0 (fleet_fits.l0 kq l0 l1 l1 (l1.length : Int) x16_1 ((rd_T52 l0 (rd l1 0)).f0) ((rd_T52 l0 (rd l1 0)).f1) ((rd_T52 l0 (rd l1 0)).f2) ((rd_T52 l0 (rd l1 0)).f3) ((rd_T52 l0 (rd l1 0)).f4) ((rd_T52 l0 (rd l1 0)).f5) ((rd_T52 l0 (rd l1 0)).f6) ((rd_T52 l0 (rd l1 0)).f7) ((rd_T52 l0 (rd l1 0)).f8) ((rd_T52 l0 (rd l1 0)).f9) ((rd_T52 l0 (rd l1 0)).f10) ((rd_T52 l0 (rd l1 0)).f11) ((rd_T52 l0 (rd l1 0)).f12) ((rd_T52 l0 (rd l1 0)).f13) = some r) ∧ Aside0 (kq ≤ k) ∧ Aside0 (w'.heap[gb106]? = some (.cells #[.string ((rd_T52 l0 (rd l1 0)).f0), .int .i64 ((rd_T52 l0 (rd l1 0)).f1), .int .i64 ((rd_T52 l0 (rd l1 0)).f2), .int .i64 ((rd_T52 l0 (rd l1 0)).f3), .int .i64 ((rd_T52 l0 (rd l1 0)).f4), .int .i64 ((rd_T52 l0 (rd l1 0)).f5), .int .i64 ((rd_T52 l0 (rd l1 0)).f6), .int .i64 ((rd_T52 l0 (rd l1 0)).f7), .int .i64 ((rd_T52 l0 (rd l1 0)).f8), .int .i64 ((rd_T52 l0 (rd l1 0)).f9), .int .i64 ((rd_T52 l0 (rd l1 0)).f10), .int .i64 ((rd_T52 l0 (rd l1 0)).f11), .int .i64 ((rd_T52 l0 (rd l1 0)).f12), .bool ((rd_T52 l0 (rd l1 0)).f13)] 52 (0, 0))) ∧ Aside0 (Below w.heap.size w w'))
    case atStart => exact ⟨(0), tS_, H', ⟨Nat.le_refl _⟩, ⟨by (with_reducible repeat (first | refine blk_drewN ?_ _ | refine blk_drew ?_ | refine blk_alloc ?_ _)); refine blk_put (cs := #[.string ((rd_T52 l0 (rd l1 0)).f0), .int .i64 ((rd_T52 l0 (rd l1 0)).f1), .int .i64 ((rd_T52 l0 (rd l1 0)).f2), .int .i64 ((rd_T52 l0 (rd l1 0)).f3), .int .i64 ((rd_T52 l0 (rd l1 0)).f4), .int .i64 ((rd_T52 l0 (rd l1 0)).f5), .int .i64 ((rd_T52 l0 (rd l1 0)).f6), .int .i64 ((rd_T52 l0 (rd l1 0)).f7), .int .i64 ((rd_T52 l0 (rd l1 0)).f8), .int .i64 ((rd_T52 l0 (rd l1 0)).f9), .int .i64 ((rd_T52 l0 (rd l1 0)).f10), .int .i64 ((rd_T52 l0 (rd l1 0)).f11), .int .i64 ((rd_T52 l0 (rd l1 0)).f12), .bool false]) ?_ 13 _ rfl; (with_reducible repeat (first | refine blk_drewN ?_ _ | refine blk_drew ?_ | refine blk_alloc ?_ _)); refine blk_put (cs := #[.string ((rd_T52 l0 (rd l1 0)).f0), .int .i64 ((rd_T52 l0 (rd l1 0)).f1), .int .i64 ((rd_T52 l0 (rd l1 0)).f2), .int .i64 ((rd_T52 l0 (rd l1 0)).f3), .int .i64 ((rd_T52 l0 (rd l1 0)).f4), .int .i64 ((rd_T52 l0 (rd l1 0)).f5), .int .i64 ((rd_T52 l0 (rd l1 0)).f6), .int .i64 ((rd_T52 l0 (rd l1 0)).f7), .int .i64 ((rd_T52 l0 (rd l1 0)).f8), .int .i64 ((rd_T52 l0 (rd l1 0)).f9), .int .i64 ((rd_T52 l0 (rd l1 0)).f10), .int .i64 ((rd_T52 l0 (rd l1 0)).f11), .int .i64 0, .bool false]) ?_ 12 _ rfl; (with_reducible repeat (first | refine blk_drewN ?_ _ | refine blk_drew ?_ | refine blk_alloc ?_ _)); refine blk_put (cs := #[.string ((rd_T52 l0 (rd l1 0)).f0), .int .i64 ((rd_T52 l0 (rd l1 0)).f1), .int .i64 ((rd_T52 l0 (rd l1 0)).f2), .int .i64 ((rd_T52 l0 (rd l1 0)).f3), .int .i64 ((rd_T52 l0 (rd l1 0)).f4), .int .i64 ((rd_T52 l0 (rd l1 0)).f5), .int .i64 ((rd_T52 l0 (rd l1 0)).f6), .int .i64 ((rd_T52 l0 (rd l1 0)).f7), .int .i64 ((rd_T52 l0 (rd l1 0)).f8), .int .i64 ((rd_T52 l0 (rd l1 0)).f9), .int .i64 ((rd_T52 l0 (rd l1 0)).f10), .int .i64 0, .int .i64 0, .bool false]) ?_ 11 _ rfl; (with_reducible repeat (first | refine blk_drewN ?_ _ | refine blk_drew ?_ | refine blk_alloc ?_ _)); refine blk_put (cs := #[.string ((rd_T52 l0 (rd l1 0)).f0), .int .i64 ((rd_T52 l0 (rd l1 0)).f1), .int .i64 ((rd_T52 l0 (rd l1 0)).f2), .int .i64 ((rd_T52 l0 (rd l1 0)).f3), .int .i64 ((rd_T52 l0 (rd l1 0)).f4), .int .i64 ((rd_T52 l0 (rd l1 0)).f5), .int .i64 ((rd_T52 l0 (rd l1 0)).f6), .int .i64 ((rd_T52 l0 (rd l1 0)).f7), .int .i64 ((rd_T52 l0 (rd l1 0)).f8), .int .i64 ((rd_T52 l0 (rd l1 0)).f9), .int .i64 0, .int .i64 0, .int .i64 0, .bool false]) ?_ 10 _ rfl; (with_reducible repeat (first | refine blk_drewN ?_ _ | refine blk_drew ?_ | refine blk_alloc ?_ _)); refine blk_put (cs := #[.string ((rd_T52 l0 (rd l1 0)).f0), .int .i64 ((rd_T52 l0 (rd l1 0)).f1), .int .i64 ((rd_T52 l0 (rd l1 0)).f2), .int .i64 ((rd_T52 l0 (rd l1 0)).f3), .int .i64 ((rd_T52 l0 (rd l1 0)).f4), .int .i64 ((rd_T52 l0 (rd l1 0)).f5), .int .i64 ((rd_T52 l0 (rd l1 0)).f6), .int .i64 ((rd_T52 l0 (rd l1 0)).f7), .int .i64 ((rd_T52 l0 (rd l1 0)).f8), .int .i64 0, .int .i64 0, .int .i64 0, .int .i64 0, .bool false]) ?_ 9 _ rfl; (with_reducible repeat (first | refine blk_drewN ?_ _ | refine blk_drew ?_ | refine blk_alloc ?_ _)); refine blk_put (cs := #[.string ((rd_T52 l0 (rd l1 0)).f0), .int .i64 ((rd_T52 l0 (rd l1 0)).f1), .int .i64 ((rd_T52 l0 (rd l1 0)).f2), .int .i64 ((rd_T52 l0 (rd l1 0)).f3), .int .i64 ((rd_T52 l0 (rd l1 0)).f4), .int .i64 ((rd_T52 l0 (rd l1 0)).f5), .int .i64 ((rd_T52 l0 (rd l1 0)).f6), .int .i64 ((rd_T52 l0 (rd l1 0)).f7), .int .i64 0, .int .i64 0, .int .i64 0, .int .i64 0, .int .i64 0, .bool false]) ?_ 8 _ rfl; (with_reducible repeat (first | refine blk_drewN ?_ _ | refine blk_drew ?_ | refine blk_alloc ?_ _)); refine blk_put (cs := #[.string ((rd_T52 l0 (rd l1 0)).f0), .int .i64 ((rd_T52 l0 (rd l1 0)).f1), .int .i64 ((rd_T52 l0 (rd l1 0)).f2), .int .i64 ((rd_T52 l0 (rd l1 0)).f3), .int .i64 ((rd_T52 l0 (rd l1 0)).f4), .int .i64 ((rd_T52 l0 (rd l1 0)).f5), .int .i64 ((rd_T52 l0 (rd l1 0)).f6), .int .i64 0, .int .i64 0, .int .i64 0, .int .i64 0, .int .i64 0, .int .i64 0, .bool false]) ?_ 7 _ rfl; (with_reducible repeat (first | refine blk_drewN ?_ _ | refine blk_drew ?_ | refine blk_alloc ?_ _)); refine blk_put (cs := #[.string ((rd_T52 l0 (rd l1 0)).f0), .int .i64 ((rd_T52 l0 (rd l1 0)).f1), .int .i64 ((rd_T52 l0 (rd l1 0)).f2), .int .i64 ((rd_T52 l0 (rd l1 0)).f3), .int .i64 ((rd_T52 l0 (rd l1 0)).f4), .int .i64 ((rd_T52 l0 (rd l1 0)).f5), .int .i64 0, .int .i64 0, .int .i64 0, .int .i64 0, .int .i64 0, .int .i64 0, .int .i64 0, .bool false]) ?_ 6 _ rfl; (with_reducible repeat (first | refine blk_drewN ?_ _ | refine blk_drew ?_ | refine blk_alloc ?_ _)); refine blk_put (cs := #[.string ((rd_T52 l0 (rd l1 0)).f0), .int .i64 ((rd_T52 l0 (rd l1 0)).f1), .int .i64 ((rd_T52 l0 (rd l1 0)).f2), .int .i64 ((rd_T52 l0 (rd l1 0)).f3), .int .i64 ((rd_T52 l0 (rd l1 0)).f4), .int .i64 0, .int .i64 0, .int .i64 0, .int .i64 0, .int .i64 0, .int .i64 0, .int .i64 0, .int .i64 0, .bool false]) ?_ 5 _ rfl; (with_reducible repeat (first | refine blk_drewN ?_ _ | refine blk_drew ?_ | refine blk_alloc ?_ _)); refine blk_put (cs := #[.string ((rd_T52 l0 (rd l1 0)).f0), .int .i64 ((rd_T52 l0 (rd l1 0)).f1), .int .i64 ((rd_T52 l0 (rd l1 0)).f2), .int .i64 ((rd_T52 l0 (rd l1 0)).f3), .int .i64 0, .int .i64 0, .int .i64 0, .int .i64 0, .int .i64 0, .int .i64 0, .int .i64 0, .int .i64 0, .int .i64 0, .bool false]) ?_ 4 _ rfl; (with_reducible repeat (first | refine blk_drewN ?_ _ | refine blk_drew ?_ | refine blk_alloc ?_ _)); refine blk_put (cs := #[.string ((rd_T52 l0 (rd l1 0)).f0), .int .i64 ((rd_T52 l0 (rd l1 0)).f1), .int .i64 ((rd_T52 l0 (rd l1 0)).f2), .int .i64 0, .int .i64 0, .int .i64 0, .int .i64 0, .int .i64 0, .int .i64 0, .int .i64 0, .int .i64 0, .int .i64 0, .int .i64 0, .bool false]) ?_ 3 _ rfl; (with_reducible repeat (first | refine blk_drewN ?_ _ | refine blk_drew ?_ | refine blk_alloc ?_ _)); refine blk_put (cs := #[.string ((rd_T52 l0 (rd l1 0)).f0), .int .i64 ((rd_T52 l0 (rd l1 0)).f1), .int .i64 0, .int .i64 0, .int .i64 0, .int .i64 0, .int .i64 0, .int .i64 0, .int .i64 0, .int .i64 0, .int .i64 0, .int .i64 0, .int .i64 0, .bool false]) ?_ 2 _ rfl; (with_reducible repeat (first | refine blk_drewN ?_ _ | refine blk_drew ?_ | refine blk_alloc ?_ _)); refine blk_put (cs := #[.string ((rd_T52 l0 (rd l1 0)).f0), .int .i64 0, .int .i64 0, .int .i64 0, .int .i64 0, .int .i64 0, .int .i64 0, .int .i64 0, .int .i64 0, .int .i64 0, .int .i64 0, .int .i64 0, .int .i64 0, .bool false]) ?_ 1 _ rfl; (with_reducible repeat (first | refine blk_drewN ?_ _ | refine blk_drew ?_ | refine blk_alloc ?_ _)); refine blk_put (cs := #[.string (⟨#[]⟩ : ByteArray), .int .i64 0, .int .i64 0, .int .i64 0, .int .i64 0, .int .i64 0, .int .i64 0, .int .i64 0, .int .i64 0, .int .i64 0, .int .i64 0, .int .i64 0, .int .i64 0, .bool false]) ?_ 0 _ rfl; (with_reducible repeat (first | refine blk_drewN ?_ _ | refine blk_drew ?_ | refine blk_alloc ?_ _)); exact BK106.out⟩, ⟨dL1_ HB GE106⟩⟩
    case round =>
     clear H'
     try clear c1
     try clear c3
     try clear c3b0
     try clear c3b1
     try clear c4
     try clear c4b0
     try clear c5
     try clear c5b0
     try clear hcz7_0
     try clear hcz7_1
     try clear hcz7_10
     try clear hcz7_11
     try clear hcz7_12
     try clear hcz7_13
     try clear hcz7_2
     try clear hcz7_3
     try clear hcz7_4
     try clear hcz7_5
     try clear hcz7_6
     try clear hcz7_7
     try clear hcz7_8
     try clear hcz7_9
     try clear hfz7_0
     try clear hfz7_1
     try clear hfz7_10
     try clear hfz7_11
     try clear hfz7_12
     try clear hfz7_13
     try clear hfz7_2
     try clear hfz7_3
     try clear hfz7_4
     try clear hfz7_5
     try clear hfz7_6
     try clear hfz7_7
     try clear hfz7_8
     try clear hfz7_9
     try clear hx104_0
     try clear hx105_0
     try clear hx105_1
     try clear hx105_10
     try clear hx105_11
     try clear hx105_12
     try clear hx105_13
     try clear hx105_2
     try clear hx105_3
     try clear hx105_4
     try clear hx105_5
     try clear hx105_6
     try clear hx105_7
     try clear hx105_8
     try clear hx105_9
     try clear p104
     try clear p105
     try clear q104
     try clear q105
     obtain ⟨x16_1, rfl, HA, HK1, BK106, HB⟩ := hrel
     cases gk with
     | zero => exact absurd HA.out (by simp [fleet_fits.l0])
     | succ k1 =>
      have H := HA.out
      clear HA
      simp only [fleet_fits.l0] at H
      by_cases c8 : x16_1 < (l1.length : Int)
      ·rw [if_pos c8] at H
       have c8b0 : decide (x16_1 < (l1.length : Int)) = true := decide_eq_true c8
       clear c8
       by_cases c9 : 0 ≤ x16_1
       ·rw [if_pos c9] at H
        have c9b0 : decide (0 ≤ x16_1) = true := decide_eq_true c9
        clear c9
        by_cases c10 : x16_1 < (l1.length : Int)
        ·rw [if_pos c10] at H
         have c10b0 : decide (x16_1 < (l1.length : Int)) = true := decide_eq_true c10
         clear c10
         by_cases c11 : 0 ≤ (rd l1 x16_1)
         ·rw [if_pos c11] at H
          have c11b0 : decide (0 ≤ (rd l1 x16_1)) = true := decide_eq_true c11
          clear c11
          by_cases c12 : (rd l1 x16_1) < (l0.length : Int)
          ·rw [if_pos c12] at H
           have c12b0 : decide ((rd l1 x16_1) < (l0.length : Int)) = true := decide_eq_true c12
           clear c12
           by_cases c13 : ((rd_T52 l0 (rd l1 x16_1)).f1) = ((rd_T52 l0 (rd l1 0)).f1)
           ·rw [if_pos c13] at H
            have c13b0 : (((rd_T52 l0 (rd l1 x16_1)).f1) == ((rd_T52 l0 (rd l1 0)).f1)) = true := beq_iff_eq.mpr c13
            have c13b1 : (((rd_T52 l0 (rd l1 x16_1)).f1) != ((rd_T52 l0 (rd l1 0)).f1)) = false := bne_eq_false_iff_eq.mpr c13
            clear c13
            have H' := Aside0.mk H
            clear H
            have p107 : 0 ≤ (x16_1 : Int) := of_decide_eq_true tW_
            have q107 : x16_1 < (l1.length : Int) := of_decide_eq_true tW_
            obtain ⟨ad107, e107, hx107_0⟩ := Kd.at_int HR1.out x16_1 p107 q107
            obtain rfl : ad104 = ad107 := (by injection e107)
            replace hx107_0 := bc_ HB hx107_0
            replace p107 := eq_true p107
            replace q107 := eq_true q107
            have p108 : 0 ≤ ((rd l1 x16_1) : Int) := of_decide_eq_true tW_
            have q108 : (rd l1 x16_1) < (l0.length : Int) := of_decide_eq_true tW_
            obtain ⟨ad108, e108, hx108_0, hx108_1, hx108_2, hx108_3, hx108_4, hx108_5, hx108_6, hx108_7, hx108_8, hx108_9, hx108_10, hx108_11, hx108_12, hx108_13⟩ := at_T52 HR0.out (rd l1 x16_1) p108 q108
            obtain rfl : ad105 = ad108 := (by injection e108)
            replace hx108_0 := bc_ HB hx108_0
            replace hx108_1 := bc_ HB hx108_1
            replace hx108_2 := bc_ HB hx108_2
            replace hx108_3 := bc_ HB hx108_3
            replace hx108_4 := bc_ HB hx108_4
            replace hx108_5 := bc_ HB hx108_5
            replace hx108_6 := bc_ HB hx108_6
            replace hx108_7 := bc_ HB hx108_7
            replace hx108_8 := bc_ HB hx108_8
            replace hx108_9 := bc_ HB hx108_9
            replace hx108_10 := bc_ HB hx108_10
            replace hx108_11 := bc_ HB hx108_11
            replace hx108_12 := bc_ HB hx108_12
            replace hx108_13 := bc_ HB hx108_13
            replace p108 := eq_true p108
            replace q108 := eq_true q108
            obtain ⟨hcz14_0, hcz14_1, hcz14_2, hcz14_3, hcz14_4, hcz14_5, hcz14_6, hcz14_7, hcz14_8, hcz14_9, hcz14_10, hcz14_11, hcz14_12, hcz14_13, hfz14_0, hfz14_1, hfz14_2, hfz14_3, hfz14_4, hfz14_5, hfz14_6, hfz14_7, hfz14_8, hfz14_9, hfz14_10, hfz14_11, hfz14_12, hfz14_13⟩ := cs14_ BK106.out
            go_wp2
            repeat (go_quiet (fail); try go_wp2)
            go_roundg k1
            case measure => have := HK1.out; omega
            case rel => exact ⟨(wrap64 (x16_1 + 1)), tS_, H', ⟨by have := HK1.out; omega⟩, ⟨dB_ BK106⟩, ⟨dL1_ HB GE106⟩⟩
           ·rw [if_neg c13] at H
            have c13b0 : (((rd_T52 l0 (rd l1 x16_1)).f1) == ((rd_T52 l0 (rd l1 0)).f1)) = false := beq_eq_false_iff_ne.mpr c13
            have c13b1 : (((rd_T52 l0 (rd l1 x16_1)).f1) != ((rd_T52 l0 (rd l1 0)).f1)) = true := bne_iff_ne.mpr c13
            obtain rfl := Option.some.inj H
            have p107 : 0 ≤ (x16_1 : Int) := of_decide_eq_true tW_
            have q107 : x16_1 < (l1.length : Int) := of_decide_eq_true tW_
            obtain ⟨ad107, e107, hx107_0⟩ := Kd.at_int HR1.out x16_1 p107 q107
            obtain rfl : ad104 = ad107 := (by injection e107)
            replace hx107_0 := bc_ HB hx107_0
            replace p107 := eq_true p107
            replace q107 := eq_true q107
            have p108 : 0 ≤ ((rd l1 x16_1) : Int) := of_decide_eq_true tW_
            have q108 : (rd l1 x16_1) < (l0.length : Int) := of_decide_eq_true tW_
            obtain ⟨ad108, e108, hx108_0, hx108_1, hx108_2, hx108_3, hx108_4, hx108_5, hx108_6, hx108_7, hx108_8, hx108_9, hx108_10, hx108_11, hx108_12, hx108_13⟩ := at_T52 HR0.out (rd l1 x16_1) p108 q108
            obtain rfl : ad105 = ad108 := (by injection e108)
            replace hx108_0 := bc_ HB hx108_0
            replace hx108_1 := bc_ HB hx108_1
            replace hx108_2 := bc_ HB hx108_2
            replace hx108_3 := bc_ HB hx108_3
            replace hx108_4 := bc_ HB hx108_4
            replace hx108_5 := bc_ HB hx108_5
            replace hx108_6 := bc_ HB hx108_6
            replace hx108_7 := bc_ HB hx108_7
            replace hx108_8 := bc_ HB hx108_8
            replace hx108_9 := bc_ HB hx108_9
            replace hx108_10 := bc_ HB hx108_10
            replace hx108_11 := bc_ HB hx108_11
            replace hx108_12 := bc_ HB hx108_12
            replace hx108_13 := bc_ HB hx108_13
            replace p108 := eq_true p108
            replace q108 := eq_true q108
            obtain ⟨hcz15_0, hcz15_1, hcz15_2, hcz15_3, hcz15_4, hcz15_5, hcz15_6, hcz15_7, hcz15_8, hcz15_9, hcz15_10, hcz15_11, hcz15_12, hcz15_13, hfz15_0, hfz15_1, hfz15_2, hfz15_3, hfz15_4, hfz15_5, hfz15_6, hfz15_7, hfz15_8, hfz15_9, hfz15_10, hfz15_11, hfz15_12, hfz15_13⟩ := cs14_ BK106.out
            go_wp2
            repeat (go_quiet (fail); try go_wp2)
            go_ret
            exact ⟨tE_, dL1_ HB GE106⟩
          ·rw [if_neg c12] at H
           exact absurd H (by simp)
         ·rw [if_neg c11] at H
          exact absurd H (by simp)
        ·rw [if_neg c10] at H
         exact absurd H (by simp)
       ·rw [if_neg c9] at H
        exact absurd H (by simp)
      ·rw [if_neg c8] at H
       have c8b0 : decide (x16_1 < (l1.length : Int)) = false := decide_eq_false c8
       clear c8
       have HC16 := Aside0.mk H
       clear H
       go_upto_region 8 with (fail)
       repeat (go_quiet (fail); go_upto_region 8 with (fail))
       go_cut [46] (fun v46 wc => ∃ (kq : Nat) (x46_15 : Bool), v46 = .bool x46_15 ∧ Aside0 (fleet_fits.j1 kq x46_15 = some r) ∧ Aside0 (kq ≤ k1) ∧ Aside0 (wc.heap[gb106]? = some (.cells #[.string ((rd_T52 l0 (rd l1 0)).f0), .int .i64 ((rd_T52 l0 (rd l1 0)).f1), .int .i64 ((rd_T52 l0 (rd l1 0)).f2), .int .i64 ((rd_T52 l0 (rd l1 0)).f3), .int .i64 ((rd_T52 l0 (rd l1 0)).f4), .int .i64 ((rd_T52 l0 (rd l1 0)).f5), .int .i64 ((rd_T52 l0 (rd l1 0)).f6), .int .i64 ((rd_T52 l0 (rd l1 0)).f7), .int .i64 ((rd_T52 l0 (rd l1 0)).f8), .int .i64 ((rd_T52 l0 (rd l1 0)).f9), .int .i64 ((rd_T52 l0 (rd l1 0)).f10), .int .i64 ((rd_T52 l0 (rd l1 0)).f11), .int .i64 ((rd_T52 l0 (rd l1 0)).f12), .bool ((rd_T52 l0 (rd l1 0)).f13)] 52 (0, 0))) ∧ Aside0 (Below w.heap.size w wc))
       case first =>
        have H := HC16.out
        clear HC16
        by_cases c17 : ((rd_T52 l0 (rd l1 0)).f1) = 0
        ·rw [if_pos c17] at H
         have c17b0 : (((rd_T52 l0 (rd l1 0)).f1) == 0) = true := beq_iff_eq.mpr c17
         have c17b1 : (((rd_T52 l0 (rd l1 0)).f1) != 0) = false := bne_eq_false_iff_eq.mpr c17
         clear c17
         (first | rw [c17b0] | (simp only [i64_w, i32_w]; rw [c17b0]) | skip)
         by_cases c18 : ((rd_T52 l0 (rd l1 0)).f3) = 0
         ·rw [if_pos c18] at H
          have c18b0 : (((rd_T52 l0 (rd l1 0)).f3) == 0) = true := beq_iff_eq.mpr c18
          have c18b1 : (((rd_T52 l0 (rd l1 0)).f3) != 0) = false := bne_eq_false_iff_eq.mpr c18
          clear c18
          have H' := Aside0.mk H
          clear H
          obtain ⟨hcz19_0, hcz19_1, hcz19_2, hcz19_3, hcz19_4, hcz19_5, hcz19_6, hcz19_7, hcz19_8, hcz19_9, hcz19_10, hcz19_11, hcz19_12, hcz19_13, hfz19_0, hfz19_1, hfz19_2, hfz19_3, hfz19_4, hfz19_5, hfz19_6, hfz19_7, hfz19_8, hfz19_9, hfz19_10, hfz19_11, hfz19_12, hfz19_13⟩ := cs14_ BK106.out
          go_wp2
          repeat (go_quiet (fail); try go_wp2)
          go_meet
          case rel => exact ⟨_, (true), tS_, H', ⟨by have := HK1.out; first | omega | exact Nat.le_refl _⟩, ⟨dB_ BK106⟩, ⟨dL1_ HB GE106⟩⟩
         ·rw [if_neg c18] at H
          have c18b0 : (((rd_T52 l0 (rd l1 0)).f3) == 0) = false := beq_eq_false_iff_ne.mpr c18
          have c18b1 : (((rd_T52 l0 (rd l1 0)).f3) != 0) = true := bne_iff_ne.mpr c18
          have H' := Aside0.mk H
          clear H
          obtain ⟨hcz20_0, hcz20_1, hcz20_2, hcz20_3, hcz20_4, hcz20_5, hcz20_6, hcz20_7, hcz20_8, hcz20_9, hcz20_10, hcz20_11, hcz20_12, hcz20_13, hfz20_0, hfz20_1, hfz20_2, hfz20_3, hfz20_4, hfz20_5, hfz20_6, hfz20_7, hfz20_8, hfz20_9, hfz20_10, hfz20_11, hfz20_12, hfz20_13⟩ := cs14_ BK106.out
          go_wp2
          repeat (go_quiet (fail); try go_wp2)
          go_meet
          case rel => exact ⟨_, (false), tS_, H', ⟨by have := HK1.out; first | omega | exact Nat.le_refl _⟩, ⟨dB_ BK106⟩, ⟨dL1_ HB GE106⟩⟩
        ·rw [if_neg c17] at H
         have c17b0 : (((rd_T52 l0 (rd l1 0)).f1) == 0) = false := beq_eq_false_iff_ne.mpr c17
         have c17b1 : (((rd_T52 l0 (rd l1 0)).f1) != 0) = true := bne_iff_ne.mpr c17
         (first | rw [c17b0] | (simp only [i64_w, i32_w]; rw [c17b0]) | skip)
         have H' := Aside0.mk H
         clear H
         obtain ⟨hcz21_0, hcz21_1, hcz21_2, hcz21_3, hcz21_4, hcz21_5, hcz21_6, hcz21_7, hcz21_8, hcz21_9, hcz21_10, hcz21_11, hcz21_12, hcz21_13, hfz21_0, hfz21_1, hfz21_2, hfz21_3, hfz21_4, hfz21_5, hfz21_6, hfz21_7, hfz21_8, hfz21_9, hfz21_10, hfz21_11, hfz21_12, hfz21_13⟩ := cs14_ BK106.out
         go_wp2
         repeat (go_quiet (fail); try go_wp2)
         go_meet
         case rel => exact ⟨_, (decide ((l1.length : Int) > 1)), tS_, H', ⟨by have := HK1.out; first | omega | exact Nat.le_refl _⟩, ⟨dB_ BK106⟩, ⟨dL1_ HB GE106⟩⟩
       case rest =>
        clear HC16
        try clear c1
        try clear c3
        try clear c3b0
        try clear c3b1
        try clear c4
        try clear c4b0
        try clear c5
        try clear c5b0
        try clear c8
        try clear c8b0
        try clear c9
        try clear c10
        try clear c11
        try clear c12
        try clear c13
        try clear c17
        try clear c18
        try clear hcz7_0
        try clear hcz7_1
        try clear hcz7_10
        try clear hcz7_11
        try clear hcz7_12
        try clear hcz7_13
        try clear hcz7_2
        try clear hcz7_3
        try clear hcz7_4
        try clear hcz7_5
        try clear hcz7_6
        try clear hcz7_7
        try clear hcz7_8
        try clear hcz7_9
        try clear hfz7_0
        try clear hfz7_1
        try clear hfz7_10
        try clear hfz7_11
        try clear hfz7_12
        try clear hfz7_13
        try clear hfz7_2
        try clear hfz7_3
        try clear hfz7_4
        try clear hfz7_5
        try clear hfz7_6
        try clear hfz7_7
        try clear hfz7_8
        try clear hfz7_9
        try clear hx104_0
        try clear hx105_0
        try clear hx105_1
        try clear hx105_10
        try clear hx105_11
        try clear hx105_12
        try clear hx105_13
        try clear hx105_2
        try clear hx105_3
        try clear hx105_4
        try clear hx105_5
        try clear hx105_6
        try clear hx105_7
        try clear hx105_8
        try clear hx105_9
        try clear p104
        try clear p105
        try clear q104
        try clear q105
        obtain ⟨kq, x46_15, rfl, HA, HJ15, BK106, HB⟩ := hcut
        cases kq with
        | zero => exact absurd HA.out (by simp [fleet_fits.j1])
        | succ kj15 =>
         have H := HA.out
         clear HA
         simp only [fleet_fits.j1] at H
         by_cases c22 : x46_15 = true
         ·subst c22
          have H1 : (some 8) = some r := by rw [if_pos rfl] at H; exact H
          clear H
          have H := H1
          clear H1
          obtain rfl := Option.some.inj H
          go_wp2
          repeat (go_quiet (fail); try go_wp2)
          go_ret
          exact ⟨tE_, dL1_ HB GE106⟩
         ·replace c22 := Bool.eq_false_iff.mpr c22
          subst c22
          have H1 : (some 0) = some r := by rw [if_neg (show ¬ (false = true) by decide)] at H; exact H
          clear H
          have H := H1
          clear H1
          obtain rfl := Option.some.inj H
          go_wp2
          repeat (go_quiet (fail); try go_wp2)
          go_ret
          exact ⟨tE_, dL1_ HB GE106⟩
   ·rw [if_neg c5] at H
    exact absurd H (by simp)
  ·rw [if_neg c4] at H
   exact absurd H (by simp)
 ·rw [if_neg c3] at H
  exact absurd H (by simp)

end Go.Proofs.Ytgnahbjpockdmab.Q
namespace Go.Proofs.Ytgnahbjpockdmab.Q
open Go.RowKit Go.Proofs.YtgnahbjpockdmabPrs Go.Proofs.YtgnahbjpockdmabOwn Go.Proofs.YtgnahbjpockdmabW.PrintWords Go.Proofs.YtgnahbjpockdmabW.PrintLast Go.Proofs.YtgnahbjpockdmabW.PrintMore
attribute [local go_sem] max2_int min2_int max_two min_two max_three min_three max_four min_four   -- for this text's walks alone
set_option linter.unusedVariables false
set_option linter.unusedSimpArgs false

/-! ### fleet_within: function 18 -/
mutual
def fleet_within.l0 : Nat → Int → Int → List Int → Int → Int → Option (Bool)
  | 0, _, _, _, _, _ => none
  | k + 1, x0, x1, x9, x10, x11 => if x11 < x10 then (if 0 ≤ x11 then (if x11 < (x9.length : Int) then (if (rd x9 x11) < x0 then (fleet_within.j1 k x0 x1 x9 x10 x11 true) else (fleet_within.j1 k x0 x1 x9 x10 x11 (decide ((rd x9 x11) > x1)))) else (none)) else (none)) else (some true)
def fleet_within.j1 : Nat → Int → Int → List Int → Int → Int → Bool → Option (Bool)
  | 0, _, _, _, _, _, _ => none
  | k + 1, x0, x1, x9, x10, x11, x22 => if x22 = true then (some false) else (fleet_within.l0 k x0 x1 x9 x10 (wrap64 (x11 + 1)))
end
def fleet_within.f (k : Nat) (a0 : Int) (a1 : Int) (l2 : List Int) : Option (Bool) := fleet_within.l0 k a0 a1 l2 (l2.length : Int) 0
theorem fleet_within.mono_l : ∀ k, (∀ y0 y1 y2 y3 y4, LeO (fleet_within.l0 k y0 y1 y2 y3 y4) (fleet_within.l0 (k + 1) y0 y1 y2 y3 y4)) ∧ (∀ y0 y1 y2 y3 y4 y5, LeO (fleet_within.j1 k y0 y1 y2 y3 y4 y5) (fleet_within.j1 (k + 1) y0 y1 y2 y3 y4 y5))
  | 0 => ⟨fun _ _ _ _ _ r h => by simp [fleet_within.l0] at h, fun _ _ _ _ _ _ r h => by simp [fleet_within.j1] at h⟩
  | k + 1 => by
    obtain ⟨ih0, ih1⟩ := fleet_within.mono_l k
    refine ⟨?_, ?_⟩
    · intro y0 y1 y2 y3 y4
      unfold fleet_within.l0
      repeat' first
      | (with_reducible first | exact ih0 _ _ _ _ _ | exact ih1 _ _ _ _ _ _ | exact LeO.refl _ | exact LeO.none _ | refine LeO.ite ?_ ?_ | refine LeO.bind ?_ (fun _ => ?_))
      | exact ih0 _ _ _ _ _
      | exact ih1 _ _ _ _ _ _
      | exact LeO.none _
      | refine LeO.ite ?_ ?_
      | refine LeO.bind ?_ (fun _ => ?_)
    · intro y0 y1 y2 y3 y4 y5
      unfold fleet_within.j1
      repeat' first
      | (with_reducible first | exact ih0 _ _ _ _ _ | exact ih1 _ _ _ _ _ _ | exact LeO.refl _ | exact LeO.none _ | refine LeO.ite ?_ ?_ | refine LeO.bind ?_ (fun _ => ?_))
      | exact ih0 _ _ _ _ _
      | exact ih1 _ _ _ _ _ _
      | exact LeO.none _
      | refine LeO.ite ?_ ?_
      | refine LeO.bind ?_ (fun _ => ?_)
theorem fleet_within.mono : ∀ a0 a1 a2 k, LeO (fleet_within.f k a0 a1 a2) (fleet_within.f (k + 1) a0 a1 a2) := by
  intro a0 a1 a2 k
  obtain ⟨ih0, ih1⟩ := fleet_within.mono_l k
  unfold fleet_within.f
  repeat' first
      | (with_reducible first | exact ih0 _ _ _ _ _ | exact ih1 _ _ _ _ _ _ | exact LeO.refl _ | exact LeO.none _ | refine LeO.ite ?_ ?_ | refine LeO.bind ?_ (fun _ => ?_))
      | exact ih0 _ _ _ _ _
      | exact ih1 _ _ _ _ _ _
      | exact LeO.none _
      | refine LeO.ite ?_ ?_
      | refine LeO.bind ?_ (fun _ => ?_)
set_option maxHeartbeats 8000000 in
set_option maxRecDepth 100000 in
theorem fleet_within.calls (k : Nat) (a0 : Int) (a1 : Int) (A2 : Option Addr) (c2 : Nat) (l2 : List Int) (r : Bool) (w : World) (hr2 : Kd.C (Kd.int .i64) w A2 l2.length l2) (hc2 : l2.length ≤ c2) (h : fleet_within.f k a0 a1 l2 = some r) :
    Calls Try.prog 18 #[.int .i64 a0, .int .i64 a1, .slice A2 l2.length c2] w fun e w' => e = .returned (.bool r) ∧ Drawn0 w w' := by
 have HR2 := Aside0.mk hr2
 have HC2 := Aside0.mk hc2
 clear hr2 hc2
 have H : (fleet_within.l0 k a0 a1 l2 (l2.length : Int) 0) = some r := h
 clear h
 have H' := Aside0.mk H
 clear H
 go_enter Try.func18, Try.ntmps18
 go_wp2
 go_loopg [11] k (fun kq v11 w' => ∃ (x11_1 : Int), v11 = .int .i64 x11_1 ∧ Aside0 (fleet_within.l0 kq a0 a1 l2 (l2.length : Int) x11_1 = some r) ∧ Aside0 (kq ≤ k) ∧ Drawn0 w w')
 case atStart => exact ⟨(0), tS_, H', ⟨Nat.le_refl _⟩, by repeat (first | exact Drawn0.refl _ | apply Drawn0.step)⟩
 case round =>
  clear H'
  try clear c2
  obtain ⟨x11_1, rfl, HA, HK1, ⟨m1, rfl⟩⟩ := hrel
  cases gk with
  | zero => exact absurd HA.out (by simp [fleet_within.l0])
  | succ k1 =>
   have H := HA.out
   clear HA
   simp only [fleet_within.l0] at H
   by_cases c4 : x11_1 < (l2.length : Int)
   ·rw [if_pos c4] at H
    have c4b0 : decide (x11_1 < (l2.length : Int)) = true := decide_eq_true c4
    clear c4
    by_cases c5 : 0 ≤ x11_1
    ·rw [if_pos c5] at H
     have c5b0 : decide (0 ≤ x11_1) = true := decide_eq_true c5
     clear c5
     by_cases c6 : x11_1 < (l2.length : Int)
     ·rw [if_pos c6] at H
      have c6b0 : decide (x11_1 < (l2.length : Int)) = true := decide_eq_true c6
      clear c6
      have HC7 := Aside0.mk H
      clear H
      have p109 : 0 ≤ (x11_1 : Int) := of_decide_eq_true tW_
      have q109 : x11_1 < (l2.length : Int) := of_decide_eq_true tW_
      obtain ⟨ad109, e109, hx109_0⟩ := Kd.at_int HR2.out x11_1 p109 q109
      cases e109
      replace p109 := eq_true p109
      replace q109 := eq_true q109
      go_upto_region 4 with (fail)
      go_cut [22] (fun v22 wc => ∃ (kq : Nat) (x22_6 : Bool), v22 = .bool x22_6 ∧ Aside0 (fleet_within.j1 kq a0 a1 l2 (l2.length : Int) x11_1 x22_6 = some r) ∧ Aside0 (kq ≤ k1) ∧ Drawn0 w wc)
      case first =>
       have H := HC7.out
       clear HC7
       by_cases c8 : (rd l2 x11_1) < a0
       ·rw [if_pos c8] at H
        have c8b0 : decide ((rd l2 x11_1) < a0) = true := decide_eq_true c8
        clear c8
        (first | rw [c8b0] | (simp only [i64_w, i32_w]; rw [c8b0]) | skip)
        have H' := Aside0.mk H
        clear H
        go_wp2
        go_meet
        case rel => exact ⟨_, (true), tS_, H', ⟨by have := HK1.out; first | omega | exact Nat.le_refl _⟩, by repeat (first | exact Drawn0.refl _ | apply Drawn0.step)⟩
       ·rw [if_neg c8] at H
        have c8b0 : decide ((rd l2 x11_1) < a0) = false := decide_eq_false c8
        clear c8
        (first | rw [c8b0] | (simp only [i64_w, i32_w]; rw [c8b0]) | skip)
        have H' := Aside0.mk H
        clear H
        go_wp2
        go_meet
        case rel => exact ⟨_, (decide ((rd l2 x11_1) > a1)), tS_, H', ⟨by have := HK1.out; first | omega | exact Nat.le_refl _⟩, by repeat (first | exact Drawn0.refl _ | apply Drawn0.step)⟩
      case rest =>
       clear HC7
       try clear c2
       try clear c4
       try clear c4b0
       try clear c5
       try clear c5b0
       try clear c6
       try clear c6b0
       try clear c8
       try clear hx109_0
       try clear p109
       try clear q109
       obtain ⟨kq, x22_6, rfl, HA, HJ6, ⟨mc6, rfl⟩⟩ := hcut
       cases kq with
       | zero => exact absurd HA.out (by simp [fleet_within.j1])
       | succ kj6 =>
        have H := HA.out
        clear HA
        simp only [fleet_within.j1] at H
        by_cases c9 : x22_6 = true
        ·subst c9
         have H1 : (some false) = some r := by rw [if_pos rfl] at H; exact H
         clear H
         have H := H1
         clear H1
         obtain rfl := Option.some.inj H
         go_wp2
         go_ret
         exact ⟨tS_, by repeat (first | exact Drawn0.refl _ | apply Drawn0.step)⟩
        ·replace c9 := Bool.eq_false_iff.mpr c9
         subst c9
         have H1 : (fleet_within.l0 kj6 a0 a1 l2 (l2.length : Int) (wrap64 (x11_1 + 1))) = some r := by rw [if_neg (show ¬ (false = true) by decide)] at H; exact H
         clear H
         have H := H1
         clear H1
         have H' := Aside0.mk H
         clear H
         go_wp2
         go_roundg kj6
         case measure => have := HK1.out; have := HJ6.out; omega
         case rel => exact ⟨(wrap64 (x11_1 + 1)), tS_, H', ⟨by have := HK1.out; have := HJ6.out; omega⟩, by repeat (first | exact Drawn0.refl _ | apply Drawn0.step)⟩
     ·rw [if_neg c6] at H
      exact absurd H (by simp)
    ·rw [if_neg c5] at H
     exact absurd H (by simp)
   ·rw [if_neg c4] at H
    have c4b0 : decide (x11_1 < (l2.length : Int)) = false := decide_eq_false c4
    clear c4
    obtain rfl := Option.some.inj H
    go_wp2
    go_ret
    exact ⟨tS_, by repeat (first | exact Drawn0.refl _ | apply Drawn0.step)⟩

end Go.Proofs.Ytgnahbjpockdmab.Q
