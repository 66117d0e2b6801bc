-- PRINTED by print.py out of the translation. Not trusted: Lean checks it.
import Derived.Test.YtgnahbjpockdmabPrs
import Derived.Test.YtgnahbjpockdmabPrt
import Derived.Test.YtgnahbjpockdmabQ0
import Derived.Test.YtgnahbjpockdmabQ21
import Derived.Test.YtgnahbjpockdmabQ22
import Derived.Test.YtgnahbjpockdmabQ18
import Derived.Test.YtgnahbjpockdmabQ43
namespace Go.Proofs.Ytgnahbjpockdmab.Q
open Go.RowKit Go.Proofs.YtgnahbjpockdmabPrs Go.Proofs.YtgnahbjpockdmabPrt Go.Proofs.YtgnahbjpockdmabOwn Go.Proofs.YtgnahbjpockdmabW.PrintWords Go.Proofs.YtgnahbjpockdmabW.PrintLast Go.Proofs.YtgnahbjpockdmabW.PrintMore
open List renaming setIfInBounds_toArray → sI_, set_cons_zero → s0_, set_cons_succ → sS_
attribute [local go_sem] max2_int min2_int max_two min_two max_three min_three max_four min_four   -- for this text's walks alone
set_option linter.unusedVariables false
set_option linter.unusedSimpArgs false

/-! ### fleet_Day: function 12 -/
def fleet_Day.f (k : Nat) (l0 : List (S52)) (l1_0 : List Int) (l1_1 : List Int) (a1_2 : Int) (a1_3 : Int) (a1_4 : Int) (a1_5 : Int) (l1_6 : List (S49)) (a2_0 : Int) : Option (List Int × List Int × Int × Int × Int × Int × (List (S49)) × Bool × Int × Int) := (fleet_Validate.f k l0 l1_0 l1_1 a1_2 a1_3 a1_4 a1_5 l1_6).bind fun t447 => (if t447 = 0 then ((fleet_clone.f l1_0 l1_1 a1_2 a1_3 a1_4 a1_5 l1_6).bind fun bt448 => ((fleet_spans.f k l0 bt448.1 bt448.2.1 (mn (wrap64 (a1_2 + 1)) 100000) (mn (wrap64 (a1_3 + 1)) 100000) bt448.2.2.2.2.1 bt448.2.2.2.2.2.1 bt448.2.2.2.2.2.2).bind fun t462 => (if a1_5 > 0 then (some (bt448.1, bt448.2.1, mn (wrap64 (a1_2 + 1)) 100000, mn (wrap64 (a1_3 + 1)) 100000, mx (wrap64 ((wrap64 (a1_4 - 1)) - t462)) 0, bt448.2.2.2.2.2.1, bt448.2.2.2.2.2.2, false, a2_0, 0)) else ((roll_Chance.f k a2_0 (wrap64 (1000 - (mx (wrap64 ((wrap64 (a1_4 - 1)) - t462)) 0))) 20000).bind fun bt463 => (if bt463.1 = true then (some (bt448.1, bt448.2.1, mn (wrap64 (a1_2 + 1)) 100000, mn (wrap64 (a1_3 + 1)) 100000, mx (wrap64 ((wrap64 (a1_4 - 1)) - t462)) 0, 64, bt448.2.2.2.2.2.2, bt463.1, bt463.2, 0)) else (some (bt448.1, bt448.2.1, mn (wrap64 (a1_2 + 1)) 100000, mn (wrap64 (a1_3 + 1)) 100000, mx (wrap64 ((wrap64 (a1_4 - 1)) - t462)) 0, bt448.2.2.2.2.2.1, bt448.2.2.2.2.2.2, bt463.1, bt463.2, 0))))))) else (some (([] : List Int), ([] : List Int), 0, 0, 0, 0, ([] : List (S49)), false, 0, t447)))
theorem fleet_Day.mono : ∀ a0 a1 a2 a3 a4 a5 a6 a7 a8 k, LeO (fleet_Day.f k a0 a1 a2 a3 a4 a5 a6 a7 a8) (fleet_Day.f (k + 1) a0 a1 a2 a3 a4 a5 a6 a7 a8) := by
  intro a0 a1 a2 a3 a4 a5 a6 a7 a8 k
  unfold fleet_Day.f
  repeat' first
      | (with_reducible first | exact fleet_Validate.mono _ _ _ _ _ _ _ _ _ | exact fleet_spans.mono _ _ _ _ _ _ _ _ _ | exact roll_Chance.mono _ _ _ _ | exact LeO.refl _ | exact LeO.none _ | refine LeO.ite ?_ ?_ | refine LeO.bind ?_ (fun _ => ?_))
      | exact fleet_Validate.mono _ _ _ _ _ _ _ _ _
      | exact fleet_spans.mono _ _ _ _ _ _ _ _ _
      | exact roll_Chance.mono _ _ _ _
      | exact LeO.none _
      | refine LeO.ite ?_ ?_
      | refine LeO.bind ?_ (fun _ => ?_)
def fleet_Day.T5 : Bool × List (List Nat × List Nat) := (true, [([], []), ([0], [0]), ([1], [1]), ([2], [2]), ([], []), ([4], [4]), ([5], [5]), ([6], [6]), ([0, 1, 2, 3], []), ([8, 3, 0, 1, 2, 3], [3, 8]), ([0, 1, 2, 3, 4, 5, 6, 7, 8, 9], []), ([10, 7, 9, 0, 1, 2, 3, 4, 5, 6, 7, 8, 9], [7, 10])])
def fleet_Day.B5 : List Nat := [0, 1, 3, 7, 0, 16, 48, 112, 15, 271, 1023, 2047]
theorem fleet_Day.tab5 : rtab .any (opsOf Try.f12 5) = fleet_Day.T5 := by kernel_rfl
theorem fleet_Day.bits5 : waitsOk fleet_Day.T5.2 fleet_Day.B5 = true := by kernel_rfl
def fleet_Day.T6 : Bool × List (List Nat × List Nat) := (true, [([], []), ([0], [0]), ([1], [1]), ([], []), ([], []), ([3, 4], [3, 4]), ([2, 5], [2, 5]), ([6], [6]), ([0, 1, 2, 3, 4, 5, 6, 7], []), ([8, 7, 5, 0, 1, 2, 3, 4, 5, 6, 7], [7, 8])])
def fleet_Day.B6 : List Nat := [0, 1, 3, 0, 0, 24, 63, 127, 255, 511]
theorem fleet_Day.tab6 : rtab .any (opsOf Try.f12 6) = fleet_Day.T6 := by kernel_rfl
theorem fleet_Day.bits6 : waitsOk fleet_Day.T6.2 fleet_Day.B6 = true := by kernel_rfl
set_option maxHeartbeats 80000000 in
set_option maxRecDepth 100000 in
theorem fleet_Day.calls (k : Nat) (A0 : Option Addr) (c0 : Nat) (l0 : List (S52)) (A1_0 : Option Addr) (c1_0 : Nat) (l1_0 : List Int) (A1_1 : Option Addr) (c1_1 : Nat) (l1_1 : List Int) (a1_2 : Int) (a1_3 : Int) (a1_4 : Int) (a1_5 : Int) (A1_6 : Option Addr) (c1_6 : Nat) (l1_6 : List (S49)) (a2_0 : Int) (r1 : List Int) (r2 : List Int) (r3 : Int) (r4 : Int) (r5 : Int) (r6 : Int) (r7 : List (S49)) (r8 : Bool) (r9 : Int) (r10 : Int) (w : World) (hr0 : Kd.C k52 w A0 l0.length l0) (hc0 : l0.length ≤ c0) (hr1_0 : Kd.C (Kd.int .i64) w A1_0 l1_0.length l1_0) (hc1_0 : l1_0.length ≤ c1_0) (hr1_1 : Kd.C (Kd.int .i64) w A1_1 l1_1.length l1_1) (hc1_1 : l1_1.length ≤ c1_1) (hr1_6 : Kd.C k49 w A1_6 l1_6.length l1_6) (hc1_6 : l1_6.length ≤ c1_6) (h : fleet_Day.f k l0 l1_0 l1_1 a1_2 a1_3 a1_4 a1_5 l1_6 a2_0 = some (r1, r2, r3, r4, r5, r6, r7, r8, r9, r10)) :
    Calls Try.prog 12 #[.slice A0 l0.length c0, .agg #[.slice A1_0 l1_0.length c1_0, .slice A1_1 l1_1.length c1_1, .int .i64 a1_2, .int .i64 a1_3, .int .i64 a1_4, .int .i64 a1_5, .slice A1_6 l1_6.length c1_6], .agg #[.int .u64 a2_0]] w fun e w' => ∃ v0_ v1_ v6_ : Value, e = .returned (.tuple #[.agg #[v0_, v1_, .int .i64 r3, .int .i64 r4, .int .i64 r5, .int .i64 r6, v6_], .bool r8, .agg #[.int .u64 r9], .int .i64 r10]) ∧ Kd.R (Kd.int .i64) 3 w' w.heap.size (fun k_ => some k_ ≠ (v1_ : Value).ownBlock) v0_ r1 ∧ Kd.R (Kd.int .i64) 3 w' w.heap.size (fun k_ => some k_ ≠ (v0_ : Value).ownBlock) v1_ r2 ∧ Kd.R k49 49 w' w.heap.size (fun _ => True) v6_ r7 ∧ Below w.heap.size w w' := by
 have hu26 := Try.underlying26
 have hu37 := Try.underlying37
 have HR0 := Aside0.mk hr0
 have HC0 := Aside0.mk hc0
 clear hr0 hc0
 have HR1_0 := Aside0.mk hr1_0
 have HC1_0 := Aside0.mk hc1_0
 clear hr1_0 hc1_0
 have HR1_1 := Aside0.mk hr1_1
 have HC1_1 := Aside0.mk hc1_1
 clear hr1_1 hc1_1
 have HR1_6 := Aside0.mk hr1_6
 have HC1_6 := Aside0.mk hc1_6
 clear hr1_6 hc1_6
 have HB := Aside0.mk (Below.refl w.heap.size w)
 have H : ((fleet_Validate.f k l0 l1_0 l1_1 a1_2 a1_3 a1_4 a1_5 l1_6).bind fun t447 => (if t447 = 0 then ((fleet_clone.f l1_0 l1_1 a1_2 a1_3 a1_4 a1_5 l1_6).bind fun bt448 => ((fleet_spans.f k l0 bt448.1 bt448.2.1 (mn (wrap64 (a1_2 + 1)) 100000) (mn (wrap64 (a1_3 + 1)) 100000) bt448.2.2.2.2.1 bt448.2.2.2.2.2.1 bt448.2.2.2.2.2.2).bind fun t462 => (if a1_5 > 0 then (some (bt448.1, bt448.2.1, mn (wrap64 (a1_2 + 1)) 100000, mn (wrap64 (a1_3 + 1)) 100000, mx (wrap64 ((wrap64 (a1_4 - 1)) - t462)) 0, bt448.2.2.2.2.2.1, bt448.2.2.2.2.2.2, false, a2_0, 0)) else ((roll_Chance.f k a2_0 (wrap64 (1000 - (mx (wrap64 ((wrap64 (a1_4 - 1)) - t462)) 0))) 20000).bind fun bt463 => (if bt463.1 = true then (some (bt448.1, bt448.2.1, mn (wrap64 (a1_2 + 1)) 100000, mn (wrap64 (a1_3 + 1)) 100000, mx (wrap64 ((wrap64 (a1_4 - 1)) - t462)) 0, 64, bt448.2.2.2.2.2.2, bt463.1, bt463.2, 0)) else (some (bt448.1, bt448.2.1, mn (wrap64 (a1_2 + 1)) 100000, mn (wrap64 (a1_3 + 1)) 100000, mx (wrap64 ((wrap64 (a1_4 - 1)) - t462)) 0, bt448.2.2.2.2.2.1, bt448.2.2.2.2.2.2, bt463.1, bt463.2, 0))))))) else (some (([] : List Int), ([] : List Int), 0, 0, 0, 0, ([] : List (S49)), false, 0, t447)))) = some (r1, r2, r3, r4, r5, r6, r7, r8, r9, r10) := h
 clear h
 replace H := Option.bind_eq_some_iff.mp H
 obtain ⟨t447, A40, H⟩ := H
 replace H : (if t447 = 0 then ((fleet_clone.f l1_0 l1_1 a1_2 a1_3 a1_4 a1_5 l1_6).bind fun bt448 => ((fleet_spans.f k l0 bt448.1 bt448.2.1 (mn (wrap64 (a1_2 + 1)) 100000) (mn (wrap64 (a1_3 + 1)) 100000) bt448.2.2.2.2.1 bt448.2.2.2.2.2.1 bt448.2.2.2.2.2.2).bind fun t462 => (if a1_5 > 0 then (some (bt448.1, bt448.2.1, mn (wrap64 (a1_2 + 1)) 100000, mn (wrap64 (a1_3 + 1)) 100000, mx (wrap64 ((wrap64 (a1_4 - 1)) - t462)) 0, bt448.2.2.2.2.2.1, bt448.2.2.2.2.2.2, false, a2_0, 0)) else ((roll_Chance.f k a2_0 (wrap64 (1000 - (mx (wrap64 ((wrap64 (a1_4 - 1)) - t462)) 0))) 20000).bind fun bt463 => (if bt463.1 = true then (some (bt448.1, bt448.2.1, mn (wrap64 (a1_2 + 1)) 100000, mn (wrap64 (a1_3 + 1)) 100000, mx (wrap64 ((wrap64 (a1_4 - 1)) - t462)) 0, 64, bt448.2.2.2.2.2.2, bt463.1, bt463.2, 0)) else (some (bt448.1, bt448.2.1, mn (wrap64 (a1_2 + 1)) 100000, mn (wrap64 (a1_3 + 1)) 100000, mx (wrap64 ((wrap64 (a1_4 - 1)) - t462)) 0, bt448.2.2.2.2.2.1, bt448.2.2.2.2.2.2, bt463.1, bt463.2, 0))))))) else (some (([] : List Int), ([] : List Int), 0, 0, 0, 0, ([] : List (S49)), false, 0, t447))) = some (r1, r2, r3, r4, r5, r6, r7, r8, r9, r10) := H
 have A4 := Aside0.mk A40
 clear A40
 by_cases c5 : t447 = 0
 ·rw [if_pos c5] at H
  have c5b0 : (t447 == 0) = true := beq_iff_eq.mpr c5
  have c5b1 : (t447 != 0) = false := bne_eq_false_iff_eq.mpr c5
  clear c5
  replace H := Option.bind_eq_some_iff.mp H
  obtain ⟨⟨t448, t451, t454, t455, t456, t457, t458⟩, A60, H⟩ := H
  replace H : ((fleet_spans.f k l0 t448 t451 (mn (wrap64 (a1_2 + 1)) 100000) (mn (wrap64 (a1_3 + 1)) 100000) t456 t457 t458).bind fun t462 => (if a1_5 > 0 then (some (t448, t451, mn (wrap64 (a1_2 + 1)) 100000, mn (wrap64 (a1_3 + 1)) 100000, mx (wrap64 ((wrap64 (a1_4 - 1)) - t462)) 0, t457, t458, false, a2_0, 0)) else ((roll_Chance.f k a2_0 (wrap64 (1000 - (mx (wrap64 ((wrap64 (a1_4 - 1)) - t462)) 0))) 20000).bind fun bt463 => (if bt463.1 = true then (some (t448, t451, mn (wrap64 (a1_2 + 1)) 100000, mn (wrap64 (a1_3 + 1)) 100000, mx (wrap64 ((wrap64 (a1_4 - 1)) - t462)) 0, 64, t458, bt463.1, bt463.2, 0)) else (some (t448, t451, mn (wrap64 (a1_2 + 1)) 100000, mn (wrap64 (a1_3 + 1)) 100000, mx (wrap64 ((wrap64 (a1_4 - 1)) - t462)) 0, t457, t458, bt463.1, bt463.2, 0)))))) = some (r1, r2, r3, r4, r5, r6, r7, r8, r9, r10) := H
  have A6 := Aside0.mk A60
  clear A60
  obtain ⟨ji7, hji7⟩ : ∃ j_ : Int, (mn (wrap64 (a1_2 + 1)) 100000) = j_ := ⟨_, rfl⟩
  replace H : ((fleet_spans.f k l0 t448 t451 (ji7) (mn (wrap64 (a1_3 + 1)) 100000) t456 t457 t458).bind fun t462 => (if a1_5 > 0 then (some (t448, t451, ji7, mn (wrap64 (a1_3 + 1)) 100000, mx (wrap64 ((wrap64 (a1_4 - 1)) - t462)) 0, t457, t458, false, a2_0, 0)) else ((roll_Chance.f k a2_0 (wrap64 (1000 - (mx (wrap64 ((wrap64 (a1_4 - 1)) - t462)) 0))) 20000).bind fun bt463 => (if bt463.1 = true then (some (t448, t451, ji7, mn (wrap64 (a1_3 + 1)) 100000, mx (wrap64 ((wrap64 (a1_4 - 1)) - t462)) 0, 64, t458, bt463.1, bt463.2, 0)) else (some (t448, t451, ji7, mn (wrap64 (a1_3 + 1)) 100000, mx (wrap64 ((wrap64 (a1_4 - 1)) - t462)) 0, t457, t458, bt463.1, bt463.2, 0)))))) = some (r1, r2, r3, r4, r5, r6, r7, r8, r9, r10) := by first | (rw [hji7] at H; exact H) | (simp only [hji7] at H ⊢; exact H)
  (try rw [hji7] at A4)
  (try rw [hji7] at A6)
  (try (have hji7h : ji7 ≤ 100000 := by (rw [← hji7]; unfold mn; (repeat' split) <;> omega)))
  (try (have hji7g : ji7 ≤ 64 := by omega))
  have hji7_ : (if 100000 < (wrap64 (a1_2 + 1)) then 100000 else (wrap64 (a1_2 + 1))) = ji7 := hji7
  obtain ⟨ji8, hji8⟩ : ∃ j_ : Int, (mn (wrap64 (a1_3 + 1)) 100000) = j_ := ⟨_, rfl⟩
  replace H : ((fleet_spans.f k l0 t448 t451 (ji7) (ji8) t456 t457 t458).bind fun t462 => (if a1_5 > 0 then (some (t448, t451, ji7, ji8, mx (wrap64 ((wrap64 (a1_4 - 1)) - t462)) 0, t457, t458, false, a2_0, 0)) else ((roll_Chance.f k a2_0 (wrap64 (1000 - (mx (wrap64 ((wrap64 (a1_4 - 1)) - t462)) 0))) 20000).bind fun bt463 => (if bt463.1 = true then (some (t448, t451, ji7, ji8, mx (wrap64 ((wrap64 (a1_4 - 1)) - t462)) 0, 64, t458, bt463.1, bt463.2, 0)) else (some (t448, t451, ji7, ji8, mx (wrap64 ((wrap64 (a1_4 - 1)) - t462)) 0, t457, t458, bt463.1, bt463.2, 0)))))) = some (r1, r2, r3, r4, r5, r6, r7, r8, r9, r10) := by first | (rw [hji8] at H; exact H) | (simp only [hji8] at H ⊢; exact H)
  (try rw [hji8] at A4)
  (try rw [hji8] at A6)
  (try (have hji8h : ji8 ≤ 100000 := by (rw [← hji8]; unfold mn; (repeat' split) <;> omega)))
  (try (have hji8g : ji8 ≤ 64 := by omega))
  have hji8_ : (if 100000 < (wrap64 (a1_3 + 1)) then 100000 else (wrap64 (a1_3 + 1))) = ji8 := hji8
  replace H := Option.bind_eq_some_iff.mp H
  obtain ⟨t462, A90, H⟩ := H
  replace H : (if a1_5 > 0 then (some (t448, t451, ji7, ji8, mx (wrap64 ((wrap64 (a1_4 - 1)) - t462)) 0, t457, t458, false, a2_0, 0)) else ((roll_Chance.f k a2_0 (wrap64 (1000 - (mx (wrap64 ((wrap64 (a1_4 - 1)) - t462)) 0))) 20000).bind fun bt463 => (if bt463.1 = true then (some (t448, t451, ji7, ji8, mx (wrap64 ((wrap64 (a1_4 - 1)) - t462)) 0, 64, t458, bt463.1, bt463.2, 0)) else (some (t448, t451, ji7, ji8, mx (wrap64 ((wrap64 (a1_4 - 1)) - t462)) 0, t457, t458, bt463.1, bt463.2, 0))))) = some (r1, r2, r3, r4, r5, r6, r7, r8, r9, r10) := H
  have A9 := Aside0.mk A90
  clear A90
  obtain ⟨ji10, hji10⟩ : ∃ j_ : Int, (mx (wrap64 ((wrap64 (a1_4 - 1)) - t462)) 0) = j_ := ⟨_, rfl⟩
  replace H : (if a1_5 > 0 then (some (t448, t451, ji7, ji8, ji10, t457, t458, false, a2_0, 0)) else ((roll_Chance.f k a2_0 (wrap64 (1000 - (ji10))) 20000).bind fun bt463 => (if bt463.1 = true then (some (t448, t451, ji7, ji8, ji10, 64, t458, bt463.1, bt463.2, 0)) else (some (t448, t451, ji7, ji8, ji10, t457, t458, bt463.1, bt463.2, 0))))) = some (r1, r2, r3, r4, r5, r6, r7, r8, r9, r10) := by first | (rw [hji10] at H; exact H) | (simp only [hji10] at H ⊢; exact H)
  (try rw [hji10] at A4)
  (try rw [hji10] at A6)
  (try rw [hji10] at A9)
  (try (have hji10l : 0 ≤ ji10 := by (rw [← hji10]; unfold mx; (repeat' split) <;> omega)))
  (try (have hji10m : 0 ≤ ji10 := by omega))
  have hji10_ : (if (wrap64 ((wrap64 (a1_4 - 1)) - t462)) < 0 then 0 else (wrap64 ((wrap64 (a1_4 - 1)) - t462))) = ji10 := hji10
  by_cases c11 : a1_5 > 0
  ·rw [if_pos c11] at H
   have c11b0 : decide (0 < a1_5) = true := decide_eq_true c11
   clear c11
   simp only [Option.some.injEq, Prod.mk.injEq] at H
   obtain ⟨rfl, rfl, rfl, rfl, rfl, rfl, rfl, rfl, rfl, rfl⟩ := H
   go_enter Try.func12, Try.ntmps12
   try go_wp2_with (first | ((with_reducible refine gate_dst (N := 4) rfl ?_); refine box_event ?hg (N := 4) ?hd (cs := #[.slice A1_0 l1_0.length c1_0, .slice A1_1 l1_1.length c1_1, .int .i64 a1_2, .int .i64 a1_3, .int .i64 a1_4, .int .i64 a1_5, .slice A1_6 l1_6.length c1_6]) (t := 26) ?hr ?_; (case hd => rfl); (case hg => rfl); (case hr => first | (go_simp; done) | (go_simp; rfl)); intro gb443 hg w12 hbox hb; have BK443 := Aside0.mk (hbox); have GW443 := Aside0.mk ((dS_ hg (dL_ HB) : w.heap.size ≤ gb443)); have GE443 := Aside0.mk ((dS_ hg (dL_ HB) : w.heap.size ≤ gb443)); replace HB := Aside0.mk (below_step (dL_ HB) hb); clear hb hbox hg) | ((with_reducible refine gate_dst (N := 5) rfl ?_); refine box_event ?hg (N := 5) ?hd (cs := #[.int .u64 a2_0]) (t := 37) ?hr ?_; (case hd => rfl); (case hg => rfl); (case hr => first | (go_simp; done) | (go_simp; rfl)); intro gb444 hg w13 hbox hb; have BK444 := Aside0.mk (hbox); have GW444 := Aside0.mk ((dS_ hg (dL1_ HB GE443) : w.heap.size ≤ gb444)); have GE444 := Aside0.mk ((dS_ hg (dL1_ HB GE443) : w.heap.size ≤ gb444)); replace HB := Aside0.mk (below_step (dL1_ HB GE443) hb); have NB443_444 := Aside0.mk ((by rw [hg]; exact Nat.ne_of_lt (blk_lt (dB_ BK443)) : gb443 ≠ gb444)); have NB444_443 := Aside0.mk ((by rw [hg]; exact Nat.ne_of_gt (blk_lt (dB_ BK443)) : gb444 ≠ gb443)); replace BK443 := Aside0.mk (blk_below (g := gb443) (o := .cells #[.slice A1_0 l1_0.length c1_0, .slice A1_1 l1_1.length c1_1, .int .i64 a1_2, .int .i64 a1_3, .int .i64 a1_4, .int .i64 a1_5, .slice A1_6 l1_6.length c1_6] 26 (0, 0)) (dB_ BK443) hb); clear hb hbox hg) | ((with_reducible refine gate_dst (N := 6) rfl ?_); refine box_event ?hg (N := 6) ?hd (cs := #[.slice none 0 0, .slice none 0 0, .int .i64 0, .int .i64 0, .int .i64 0, .int .i64 0, .slice none 0 0]) (t := 26) ?hr ?_; (case hd => rfl); (case hg => rfl); (case hr => first | (go_simp; done) | (go_simp; rfl)); intro gb445 hg w14 hbox hb; have BK445 := Aside0.mk (hbox); have GW445 := Aside0.mk ((dS_ hg (dL2_ HB GE443 GE444) : w.heap.size ≤ gb445)); have GE445 := Aside0.mk ((dS_ hg (dL2_ HB GE443 GE444) : w.heap.size ≤ gb445)); replace HB := Aside0.mk (below_step (dL2_ HB GE443 GE444) hb); have NB443_445 := Aside0.mk ((by rw [hg]; exact Nat.ne_of_lt (blk_lt (dB_ BK443)) : gb443 ≠ gb445)); have NB445_443 := Aside0.mk ((by rw [hg]; exact Nat.ne_of_gt (blk_lt (dB_ BK443)) : gb445 ≠ gb443)); replace BK443 := Aside0.mk (blk_below (g := gb443) (o := .cells #[.slice A1_0 l1_0.length c1_0, .slice A1_1 l1_1.length c1_1, .int .i64 a1_2, .int .i64 a1_3, .int .i64 a1_4, .int .i64 a1_5, .slice A1_6 l1_6.length c1_6] 26 (0, 0)) (dB_ BK443) hb); have NB444_445 := Aside0.mk ((by rw [hg]; exact Nat.ne_of_lt (blk_lt (dB_ BK444)) : gb444 ≠ gb445)); have NB445_444 := Aside0.mk ((by rw [hg]; exact Nat.ne_of_gt (blk_lt (dB_ BK444)) : gb445 ≠ gb444)); replace BK444 := Aside0.mk (blk_below (g := gb444) (o := .cells #[.int .u64 a2_0] 37 (0, 0)) (dB_ BK444) hb); clear hb hbox hg) | ((with_reducible refine gate_dst (N := 8) rfl ?_); refine box_event ?hg (N := 8) ?hd (cs := #[.int .u64 0]) (t := 37) ?hr ?_; (case hd => rfl); (case hg => rfl); (case hr => first | (go_simp; done) | (go_simp; rfl)); intro gb446 hg w15 hbox hb; have BK446 := Aside0.mk (hbox); have GW446 := Aside0.mk ((dS_ hg (dL3_ HB GE443 GE444 GE445) : w.heap.size ≤ gb446)); have GE446 := Aside0.mk ((dS_ hg (dL3_ HB GE443 GE444 GE445) : w.heap.size ≤ gb446)); replace HB := Aside0.mk (below_step (dL3_ HB GE443 GE444 GE445) hb); have NB443_446 := Aside0.mk ((by rw [hg]; exact Nat.ne_of_lt (blk_lt (dB_ BK443)) : gb443 ≠ gb446)); have NB446_443 := Aside0.mk ((by rw [hg]; exact Nat.ne_of_gt (blk_lt (dB_ BK443)) : gb446 ≠ gb443)); replace BK443 := Aside0.mk (blk_below (g := gb443) (o := .cells #[.slice A1_0 l1_0.length c1_0, .slice A1_1 l1_1.length c1_1, .int .i64 a1_2, .int .i64 a1_3, .int .i64 a1_4, .int .i64 a1_5, .slice A1_6 l1_6.length c1_6] 26 (0, 0)) (dB_ BK443) hb); have NB444_446 := Aside0.mk ((by rw [hg]; exact Nat.ne_of_lt (blk_lt (dB_ BK444)) : gb444 ≠ gb446)); have NB446_444 := Aside0.mk ((by rw [hg]; exact Nat.ne_of_gt (blk_lt (dB_ BK444)) : gb446 ≠ gb444)); replace BK444 := Aside0.mk (blk_below (g := gb444) (o := .cells #[.int .u64 a2_0] 37 (0, 0)) (dB_ BK444) hb); have NB445_446 := Aside0.mk ((by rw [hg]; exact Nat.ne_of_lt (blk_lt (dB_ BK445)) : gb445 ≠ gb446)); have NB446_445 := Aside0.mk ((by rw [hg]; exact Nat.ne_of_gt (blk_lt (dB_ BK445)) : gb446 ≠ gb445)); replace BK445 := Aside0.mk (blk_below (g := gb445) (o := .cells #[.slice none 0 0, .slice none 0 0, .int .i64 0, .int .i64 0, .int .i64 0, .int .i64 0, .slice none 0 0] 26 (0, 0)) (dB_ BK445) hb); clear hb hbox hg; have hnb16 := NB443_444.out; have hnc16 := NB444_443.out; have hnb17 := NB443_445.out; have hnc17 := NB445_443.out; have hnb18 := NB443_446.out; have hnc18 := NB446_443.out; obtain ⟨hcz19_0, hcz19_1, hcz19_2, hcz19_3, hcz19_4, hcz19_5, hcz19_6, hfz19_0, hfz19_1, hfz19_2, hfz19_3, hfz19_4, hfz19_5, hfz19_6⟩ := cs7_ BK443.out) | ((with_reducible refine gate_callee (f := 11) rfl ?_); refine goesL_ (some 15) rfl rfl Try.func11 (by kernel_rfl) rfl #[.slice A0 l0.length c0, .agg #[.slice A1_0 l1_0.length c1_0, .slice A1_1 l1_1.length c1_1, .int .i64 a1_2, .int .i64 a1_3, .int .i64 a1_4, .int .i64 a1_5, .slice A1_6 l1_6.length c1_6]] rfl tA_ ?_; (with_reducible refine (fleet_Validate.calls k _ _ l0 _ _ l1_0 _ _ l1_1 a1_2 a1_3 a1_4 a1_5 _ _ l1_6 t447 _ ?side1 ?side2 ?side3 ?side4 ?side5 ?side6 ?side7 ?side8 A4.out).mono ?_); (case side1 => exact dC_ HR0 HB); (case side2 => exact HC0.out); (case side3 => exact dC_ HR1_0 HB); (case side4 => exact HC1_0.out); (case side5 => exact dC_ HR1_1 HB); (case side6 => exact HC1_1.out); (case side7 => exact dC_ HR1_6 HB); (case side8 => exact HC1_6.out); rintro e w20 ⟨rfl, hb⟩; refine ⟨_, rfl, ?_⟩; replace BK443 := Aside0.mk (blk_below (g := gb443) (o := .cells #[.slice A1_0 l1_0.length c1_0, .slice A1_1 l1_1.length c1_1, .int .i64 a1_2, .int .i64 a1_3, .int .i64 a1_4, .int .i64 a1_5, .slice A1_6 l1_6.length c1_6] 26 (0, 0)) (dB_ BK443) hb); replace BK444 := Aside0.mk (blk_below (g := gb444) (o := .cells #[.int .u64 a2_0] 37 (0, 0)) (dB_ BK444) hb); replace BK445 := Aside0.mk (blk_below (g := gb445) (o := .cells #[.slice none 0 0, .slice none 0 0, .int .i64 0, .int .i64 0, .int .i64 0, .int .i64 0, .slice none 0 0] 26 (0, 0)) (dB_ BK445) hb); replace BK446 := Aside0.mk (blk_below (g := gb446) (o := .cells #[.int .u64 0] 37 (0, 0)) (dB_ BK446) hb); replace HB := Aside0.mk (below_step (dL4_ HB GE443 GE444 GE445 GE446) hb); obtain ⟨hcz21_0, hcz21_1, hcz21_2, hcz21_3, hcz21_4, hcz21_5, hcz21_6, hfz21_0, hfz21_1, hfz21_2, hfz21_3, hfz21_4, hfz21_5, hfz21_6⟩ := cs7_ BK443.out) | ((with_reducible refine gate_callee (f := 19) rfl ?_); refine goesL_ (some 22) rfl rfl Try.func19 (by kernel_rfl) rfl #[.agg #[.slice A1_0 l1_0.length c1_0, .slice A1_1 l1_1.length c1_1, .int .i64 a1_2, .int .i64 a1_3, .int .i64 a1_4, .int .i64 a1_5, .slice A1_6 l1_6.length c1_6]] rfl tA_ ?_; (with_reducible refine (fleet_clone.calls _ _ l1_0 _ _ l1_1 a1_2 a1_3 a1_4 a1_5 _ _ l1_6 t448 t451 t454 t455 t456 t457 t458 _ ?side1 ?side2 ?side3 ?side4 ?side5 ?side6 A6.out).mono ?_); (case side1 => exact dC_ HR1_0 HB); (case side2 => exact HC1_0.out); (case side3 => exact dC_ HR1_1 HB); (case side4 => exact HC1_1.out); (case side5 => exact dC_ HR1_6 HB); (case side6 => exact HC1_6.out); rintro e w22 ⟨v449, v452, v459, rfl, ho0, ho1, ho2, hb⟩; refine ⟨_, rfl, ?_⟩; have HO450 := Aside0.mk (Kd.R_lower ho0 (below_size (dL4_ HB GE443 GE444 GE445 GE446))); have HO453 := Aside0.mk (Kd.R_lower ho1 (below_size (dL4_ HB GE443 GE444 GE445 GE446))); have HO460 := Aside0.mk (Kd.R_lower ho2 (below_size (dL4_ HB GE443 GE444 GE445 GE446))); replace BK443 := Aside0.mk (blk_below (g := gb443) (o := .cells #[.slice A1_0 l1_0.length c1_0, .slice A1_1 l1_1.length c1_1, .int .i64 a1_2, .int .i64 a1_3, .int .i64 a1_4, .int .i64 a1_5, .slice A1_6 l1_6.length c1_6] 26 (0, 0)) (dB_ BK443) hb); replace BK444 := Aside0.mk (blk_below (g := gb444) (o := .cells #[.int .u64 a2_0] 37 (0, 0)) (dB_ BK444) hb); replace BK445 := Aside0.mk (blk_below (g := gb445) (o := .cells #[.slice none 0 0, .slice none 0 0, .int .i64 0, .int .i64 0, .int .i64 0, .int .i64 0, .slice none 0 0] 26 (0, 0)) (dB_ BK445) hb); replace BK446 := Aside0.mk (blk_below (g := gb446) (o := .cells #[.int .u64 0] 37 (0, 0)) (dB_ BK446) hb); replace HB := Aside0.mk (below_step (dL4_ HB GE443 GE444 GE445 GE446) hb)) | ((with_reducible refine gate_dst (N := 11) rfl ?_); refine box_event ?hg (N := 11) ?hd (cs := #[.slice none 0 0, .slice none 0 0, .int .i64 0, .int .i64 0, .int .i64 0, .int .i64 0, .slice none 0 0]) (t := 26) ?hr ?_; (case hd => rfl); (case hg => rfl); (case hr => first | (go_simp; done) | (go_simp; rfl)); intro gb461 hg w23 hbox hb; replace HO450 := Aside0.mk (Kd.R_below (dR_ HO450) hb); replace HO453 := Aside0.mk (Kd.R_below (dR_ HO453) hb); replace HO460 := Aside0.mk (Kd.R_below (dR_ HO460) hb); have BK461 := Aside0.mk (hbox); have GW461 := Aside0.mk ((dS_ hg (dL4_ HB GE443 GE444 GE445 GE446) : w.heap.size ≤ gb461)); have GE461 := Aside0.mk ((dS_ hg (dL4_ HB GE443 GE444 GE445 GE446) : w.heap.size ≤ gb461)); replace HB := Aside0.mk (below_step (dL4_ HB GE443 GE444 GE445 GE446) hb); have NB443_461 := Aside0.mk ((by rw [hg]; exact Nat.ne_of_lt (blk_lt (dB_ BK443)) : gb443 ≠ gb461)); have NB461_443 := Aside0.mk ((by rw [hg]; exact Nat.ne_of_gt (blk_lt (dB_ BK443)) : gb461 ≠ gb443)); replace BK443 := Aside0.mk (blk_below (g := gb443) (o := .cells #[.slice A1_0 l1_0.length c1_0, .slice A1_1 l1_1.length c1_1, .int .i64 a1_2, .int .i64 a1_3, .int .i64 a1_4, .int .i64 a1_5, .slice A1_6 l1_6.length c1_6] 26 (0, 0)) (dB_ BK443) hb); have NB444_461 := Aside0.mk ((by rw [hg]; exact Nat.ne_of_lt (blk_lt (dB_ BK444)) : gb444 ≠ gb461)); have NB461_444 := Aside0.mk ((by rw [hg]; exact Nat.ne_of_gt (blk_lt (dB_ BK444)) : gb461 ≠ gb444)); replace BK444 := Aside0.mk (blk_below (g := gb444) (o := .cells #[.int .u64 a2_0] 37 (0, 0)) (dB_ BK444) hb); have NB445_461 := Aside0.mk ((by rw [hg]; exact Nat.ne_of_lt (blk_lt (dB_ BK445)) : gb445 ≠ gb461)); have NB461_445 := Aside0.mk ((by rw [hg]; exact Nat.ne_of_gt (blk_lt (dB_ BK445)) : gb461 ≠ gb445)); replace BK445 := Aside0.mk (blk_below (g := gb445) (o := .cells #[.slice none 0 0, .slice none 0 0, .int .i64 0, .int .i64 0, .int .i64 0, .int .i64 0, .slice none 0 0] 26 (0, 0)) (dB_ BK445) hb); have NB446_461 := Aside0.mk ((by rw [hg]; exact Nat.ne_of_lt (blk_lt (dB_ BK446)) : gb446 ≠ gb461)); have NB461_446 := Aside0.mk ((by rw [hg]; exact Nat.ne_of_gt (blk_lt (dB_ BK446)) : gb461 ≠ gb446)); replace BK446 := Aside0.mk (blk_below (g := gb446) (o := .cells #[.int .u64 0] 37 (0, 0)) (dB_ BK446) hb); clear hb hbox hg; obtain ⟨Ao24, co24, eo24⟩ := Kd.R_slice HO450.out; subst eo24; have hnb25 := NB461_443.out; have hnc25 := NB443_461.out; have hnb26 := NB461_444.out; have hnc26 := NB444_461.out; have hnb27 := NB461_445.out; have hnc27 := NB445_461.out; have hnb28 := NB461_446.out; have hnc28 := NB446_461.out; obtain ⟨hcz29_0, hcz29_1, hcz29_2, hcz29_3, hcz29_4, hcz29_5, hcz29_6, hfz29_0, hfz29_1, hfz29_2, hfz29_3, hfz29_4, hfz29_5, hfz29_6⟩ := cs7_ BK461.out; obtain ⟨Ao30, co30, eo30⟩ := Kd.R_slice HO453.out; subst eo30; obtain ⟨Ao31, co31, eo31⟩ := Kd.R_slice HO460.out; subst eo31))
   have n0_ : Aside0 (Kd.R (Kd.int .i64) 3 (((((((w23.setCell ⟨gb461, 0, none⟩ (.slice Ao24 t448.length co24)).setCell ⟨gb461, 1, none⟩ (.slice Ao30 t451.length co30)).setCell ⟨gb461, 2, none⟩ (.int .i64 t454)).setCell ⟨gb461, 3, none⟩ (.int .i64 t455)).setCell ⟨gb461, 4, none⟩ (.int .i64 t456)).setCell ⟨gb461, 5, none⟩ (.int .i64 t457)).setCell ⟨gb461, 6, none⟩ (.slice Ao31 t458.length co31)) w.heap.size (fun k_ => some k_ ≠ (.slice Ao30 t451.length co30 : Value).ownBlock) (.slice Ao24 t448.length co24) t448) := ⟨by (with_reducible repeat (first | apply Kd.R_alloc | apply Kd.R_drewN | apply Kd.R_drew)); exact Kd.R_mono (far7_ (Kd.R_types HO450.out BK461.out (by decide)) gb461 (fun _ hk => hk.2) (.slice Ao24 t448.length co24) (.slice Ao30 t451.length co30) (.int .i64 t454) (.int .i64 t455) (.int .i64 t456) (.int .i64 t457) (.slice Ao31 t458.length co31)) (fun _ hk => hk.1)⟩
   have n1_ : Aside0 (Kd.R (Kd.int .i64) 3 (((((((w23.setCell ⟨gb461, 0, none⟩ (.slice Ao24 t448.length co24)).setCell ⟨gb461, 1, none⟩ (.slice Ao30 t451.length co30)).setCell ⟨gb461, 2, none⟩ (.int .i64 t454)).setCell ⟨gb461, 3, none⟩ (.int .i64 t455)).setCell ⟨gb461, 4, none⟩ (.int .i64 t456)).setCell ⟨gb461, 5, none⟩ (.int .i64 t457)).setCell ⟨gb461, 6, none⟩ (.slice Ao31 t458.length co31)) w.heap.size (fun k_ => some k_ ≠ (.slice Ao24 t448.length co24 : Value).ownBlock) (.slice Ao30 t451.length co30) t451) := ⟨by (with_reducible repeat (first | apply Kd.R_alloc | apply Kd.R_drewN | apply Kd.R_drew)); exact Kd.R_mono (far7_ (Kd.R_types HO453.out BK461.out (by decide)) gb461 (fun _ hk => hk.2) (.slice Ao24 t448.length co24) (.slice Ao30 t451.length co30) (.int .i64 t454) (.int .i64 t455) (.int .i64 t456) (.int .i64 t457) (.slice Ao31 t458.length co31)) (fun _ hk => hk.1)⟩
   have n2_ : Aside0 (Kd.R k49 49 (((((((w23.setCell ⟨gb461, 0, none⟩ (.slice Ao24 t448.length co24)).setCell ⟨gb461, 1, none⟩ (.slice Ao30 t451.length co30)).setCell ⟨gb461, 2, none⟩ (.int .i64 t454)).setCell ⟨gb461, 3, none⟩ (.int .i64 t455)).setCell ⟨gb461, 4, none⟩ (.int .i64 t456)).setCell ⟨gb461, 5, none⟩ (.int .i64 t457)).setCell ⟨gb461, 6, none⟩ (.slice Ao31 t458.length co31)) w.heap.size (fun _ => True) (.slice Ao31 t458.length co31) t458) := ⟨by (with_reducible repeat (first | apply Kd.R_alloc | apply Kd.R_drewN | apply Kd.R_drew)); exact Kd.R_mono (far7_ (Kd.R_types HO460.out BK461.out (by decide)) gb461 (fun _ hk => hk.2) (.slice Ao24 t448.length co24) (.slice Ao30 t451.length co30) (.int .i64 t454) (.int .i64 t455) (.int .i64 t456) (.int .i64 t457) (.slice Ao31 t458.length co31)) (fun _ hk => trivial)⟩
   have n3_ : Aside0 ((((((((w23.setCell ⟨gb461, 0, none⟩ (.slice Ao24 t448.length co24)).setCell ⟨gb461, 1, none⟩ (.slice Ao30 t451.length co30)).setCell ⟨gb461, 2, none⟩ (.int .i64 t454)).setCell ⟨gb461, 3, none⟩ (.int .i64 t455)).setCell ⟨gb461, 4, none⟩ (.int .i64 t456)).setCell ⟨gb461, 5, none⟩ (.int .i64 t457)).setCell ⟨gb461, 6, none⟩ (.slice Ao31 t458.length co31)).heap[gb443]? = some (.cells #[.slice A1_0 l1_0.length c1_0, .slice A1_1 l1_1.length c1_1, .int .i64 a1_2, .int .i64 a1_3, .int .i64 a1_4, .int .i64 a1_5, .slice A1_6 l1_6.length c1_6] 26 (0, 0))) := ⟨dF7_ BK443 NB443_461⟩
   have n4_ : Aside0 ((((((((w23.setCell ⟨gb461, 0, none⟩ (.slice Ao24 t448.length co24)).setCell ⟨gb461, 1, none⟩ (.slice Ao30 t451.length co30)).setCell ⟨gb461, 2, none⟩ (.int .i64 t454)).setCell ⟨gb461, 3, none⟩ (.int .i64 t455)).setCell ⟨gb461, 4, none⟩ (.int .i64 t456)).setCell ⟨gb461, 5, none⟩ (.int .i64 t457)).setCell ⟨gb461, 6, none⟩ (.slice Ao31 t458.length co31)).heap[gb444]? = some (.cells #[.int .u64 a2_0] 37 (0, 0))) := ⟨dF7_ BK444 NB444_461⟩
   have n5_ : Aside0 ((((((((w23.setCell ⟨gb461, 0, none⟩ (.slice Ao24 t448.length co24)).setCell ⟨gb461, 1, none⟩ (.slice Ao30 t451.length co30)).setCell ⟨gb461, 2, none⟩ (.int .i64 t454)).setCell ⟨gb461, 3, none⟩ (.int .i64 t455)).setCell ⟨gb461, 4, none⟩ (.int .i64 t456)).setCell ⟨gb461, 5, none⟩ (.int .i64 t457)).setCell ⟨gb461, 6, none⟩ (.slice Ao31 t458.length co31)).heap[gb445]? = some (.cells #[.slice none 0 0, .slice none 0 0, .int .i64 0, .int .i64 0, .int .i64 0, .int .i64 0, .slice none 0 0] 26 (0, 0))) := ⟨dF7_ BK445 NB445_461⟩
   have n6_ : Aside0 ((((((((w23.setCell ⟨gb461, 0, none⟩ (.slice Ao24 t448.length co24)).setCell ⟨gb461, 1, none⟩ (.slice Ao30 t451.length co30)).setCell ⟨gb461, 2, none⟩ (.int .i64 t454)).setCell ⟨gb461, 3, none⟩ (.int .i64 t455)).setCell ⟨gb461, 4, none⟩ (.int .i64 t456)).setCell ⟨gb461, 5, none⟩ (.int .i64 t457)).setCell ⟨gb461, 6, none⟩ (.slice Ao31 t458.length co31)).heap[gb446]? = some (.cells #[.int .u64 0] 37 (0, 0))) := ⟨dF7_ BK446 NB446_461⟩
   have n7_ : Aside0 ((((((((w23.setCell ⟨gb461, 0, none⟩ (.slice Ao24 t448.length co24)).setCell ⟨gb461, 1, none⟩ (.slice Ao30 t451.length co30)).setCell ⟨gb461, 2, none⟩ (.int .i64 t454)).setCell ⟨gb461, 3, none⟩ (.int .i64 t455)).setCell ⟨gb461, 4, none⟩ (.int .i64 t456)).setCell ⟨gb461, 5, none⟩ (.int .i64 t457)).setCell ⟨gb461, 6, none⟩ (.slice Ao31 t458.length co31)).heap[gb461]? = some (.cells #[.slice Ao24 t448.length co24, .slice Ao30 t451.length co30, .int .i64 t454, .int .i64 t455, .int .i64 t456, .int .i64 t457, .slice Ao31 t458.length co31] 26 (0, 0))) := ⟨dP7_ BK461⟩
   have n8_ : Aside0 (Below w.heap.size w (((((((w23.setCell ⟨gb461, 0, none⟩ (.slice Ao24 t448.length co24)).setCell ⟨gb461, 1, none⟩ (.slice Ao30 t451.length co30)).setCell ⟨gb461, 2, none⟩ (.int .i64 t454)).setCell ⟨gb461, 3, none⟩ (.int .i64 t455)).setCell ⟨gb461, 4, none⟩ (.int .i64 t456)).setCell ⟨gb461, 5, none⟩ (.int .i64 t457)).setCell ⟨gb461, 6, none⟩ (.slice Ao31 t458.length co31))) := ⟨by repeat (first | (with_reducible first | exact HB.out | apply below_alloc | apply pw_below_drewN | apply below_drew1 | refine below_set ?_ GE443.out | refine below_set ?_ GE444.out | refine below_set ?_ GE445.out | refine below_set ?_ GE446.out | refine below_set ?_ GE461.out) | exact HB.out)⟩
   (try clear HO450)
   (try clear HO453)
   (try clear HO460)
   (try clear BK443)
   (try clear BK444)
   (try clear BK445)
   (try clear BK446)
   (try clear BK461)
   (try clear HB)
   generalize (((((((w23.setCell ⟨gb461, 0, none⟩ (.slice Ao24 t448.length co24)).setCell ⟨gb461, 1, none⟩ (.slice Ao30 t451.length co30)).setCell ⟨gb461, 2, none⟩ (.int .i64 t454)).setCell ⟨gb461, 3, none⟩ (.int .i64 t455)).setCell ⟨gb461, 4, none⟩ (.int .i64 t456)).setCell ⟨gb461, 5, none⟩ (.int .i64 t457)).setCell ⟨gb461, 6, none⟩ (.slice Ao31 t458.length co31)) = w32 at n0_ n1_ n2_ n3_ n4_ n5_ n6_ n7_ n8_ ⊢
   have HO450 := n0_
   have HO453 := n1_
   have HO460 := n2_
   have BK443 := n3_
   have BK444 := n4_
   have BK445 := n5_
   have BK446 := n6_
   have BK461 := n7_
   have HB := n8_
   clear n0_ n1_ n2_ n3_ n4_ n5_ n6_ n7_ n8_
   replace HO450 := Aside0.mk (Kd.R_drew HO450.out)
   replace HO453 := Aside0.mk (Kd.R_drew HO453.out)
   replace HO460 := Aside0.mk (Kd.R_drew HO460.out)
   replace BK443 := Aside0.mk (blk_drew BK443.out)
   replace BK444 := Aside0.mk (blk_drew BK444.out)
   replace BK445 := Aside0.mk (blk_drew BK445.out)
   replace BK446 := Aside0.mk (blk_drew BK446.out)
   replace BK461 := Aside0.mk (blk_drew BK461.out)
   replace HB := Aside0.mk (below_drew1 HB.out)
   refine start_ (n := 12) (S := fun w' => w'.cell? ⟨gb443, 0, none⟩ = some (.slice A1_0 l1_0.length c1_0) ∧ w'.cell? ⟨gb443, 1, none⟩ = some (.slice A1_1 l1_1.length c1_1) ∧ w'.cell? ⟨gb443, 2, none⟩ = some (.int .i64 a1_2) ∧ w'.cell? ⟨gb443, 3, none⟩ = some (.int .i64 a1_3) ∧ w'.cell? ⟨gb443, 4, none⟩ = some (.int .i64 a1_4) ∧ w'.cell? ⟨gb443, 5, none⟩ = some (.int .i64 a1_5) ∧ w'.cell? ⟨gb443, 6, none⟩ = some (.slice A1_6 l1_6.length c1_6)) (ds := []) #[false, false, false, false, false, false, false, false, false, false, false, false] (by kernel_rfl) rfl rfl ⟨(blk_cell BK443.out 0).trans rfl, (blk_cell BK443.out 1).trans rfl, (blk_cell BK443.out 2).trans rfl, (blk_cell BK443.out 3).trans rfl, (blk_cell BK443.out 4).trans rfl, (blk_cell BK443.out 5).trans rfl, (blk_cell BK443.out 6).trans rfl⟩ (fun hHeld => ?_); refine with_tabW fleet_Day.tab5 fleet_Day.bits5 (fun HT_ HW_ => ?_)
   generalize w32.drew = w33 at HO450 HO453 HO460 BK443 BK444 BK445 BK446 BK461 HB hHeld ⊢
   refine pure_ (i := 0) (N := some 23) (v := ?_) (a' := ?_) (bA 1 12) rfl rfl (any_of HT_.out (by kernel_rfl)) (fun _ _ _ h => h) (Or.inl ⟨by rfl, ?_⟩) ?_ ?_; rotate_left; (intro w'; go_simp; with_reducible rfl); rotate_left; (simp only [Act.put, sI_, s0_, sS_, i64_w, i32_w]; rfl)
   refine pure_ (i := 4) (N := some 27) (v := ?_) (a' := ?_) #[true, false, false, false, true, false, false, false, false, false, false, false] rfl rfl (any_of HT_.out (by kernel_rfl)) (fun _ _ _ h => h) (Or.inl ⟨by rfl, ?_⟩) ?_ ?_; rotate_left; (intro w'; go_simp; with_reducible rfl); rotate_left; (simp only [Act.put, sI_, s0_, sS_, i64_w, i32_w]; rfl)
   refine take_ (i := 1) (N := some 24) (v := ?_) (a' := ?_) #[true, true, false, false, true, false, false, false, false, false, false, false] rfl rfl (take_ofW HT_.out HW_.out (by kernel_rfl)) (fun _ _ _ h => h) (Or.inl ⟨by rfl, ?_⟩) hHeld ?_ ?_; rotate_left; (rintro w' ⟨s0, s1, s2, s3, s4, s5, s6⟩; go_simp; with_reducible rfl); rotate_left; (simp only [Act.put, sI_, s0_, sS_, i64_w, i32_w]; rfl)
   refine pure_ (i := 2) (N := some 25) (v := ?_) (a' := ?_) #[true, true, true, false, true, false, false, false, false, false, false, false] rfl rfl (any_of HT_.out (by kernel_rfl)) (fun _ _ _ h => h) (Or.inl ⟨by rfl, ?_⟩) ?_ ?_; rotate_left; (intro w'; go_simp; with_reducible rfl); rotate_left; (simp only [Act.put, sI_, s0_, sS_, i64_w, i32_w]; rfl)
   refine pure_ (i := 3) (N := some 26) (v := ?_) (a' := ?_) (bA 5 12) rfl rfl (any_of HT_.out (by kernel_rfl)) (fun _ _ _ h => h) (Or.inl ⟨by rfl, ?_⟩) ?_ ?_; rotate_left; (intro w'; go_simp; with_reducible rfl); rotate_left; (simp only [Act.put, sI_, s0_, sS_, i64_w, i32_w]; rfl)
   refine pure_ (i := 8) (N := some 31) (v := ?_) (a' := ?_) #[true, true, true, true, true, false, false, false, true, false, false, false] rfl rfl (any_of HT_.out (by kernel_rfl)) (fun _ _ _ h => h) (Or.inl ⟨by rfl, ?_⟩) ?_ ?_; rotate_left; (intro w'; go_simp; with_reducible rfl); rotate_left; (simp only [Act.put, sI_, s0_, sS_, i64_w, i32_w]; rfl)
   refine take_ (i := 5) (N := some 28) (v := ?_) (a' := ?_) #[true, true, true, true, true, true, false, false, true, false, false, false] rfl rfl (take_ofW HT_.out HW_.out (by kernel_rfl)) (fun _ _ _ h => h) (Or.inl ⟨by rfl, ?_⟩) hHeld ?_ ?_; rotate_left; (rintro w' ⟨s0, s1, s2, s3, s4, s5, s6⟩; go_simp; with_reducible rfl); rotate_left; (simp only [Act.put, sI_, s0_, sS_, i64_w, i32_w]; rfl)
   refine pure_ (i := 6) (N := some 29) (v := ?_) (a' := ?_) #[true, true, true, true, true, true, true, false, true, false, false, false] rfl rfl (any_of HT_.out (by kernel_rfl)) (fun _ _ _ h => h) (Or.inl ⟨by rfl, ?_⟩) ?_ ?_; rotate_left; (intro w'; go_simp; with_reducible rfl); rotate_left; (simp only [Act.put, sI_, s0_, sS_, i64_w, i32_w]; rfl)
   refine pure_ (i := 7) (N := some 30) (v := ?_) (a' := ?_) (bA 9 12) rfl rfl (any_of HT_.out (by kernel_rfl)) (fun _ _ _ h => h) (Or.inl ⟨by rfl, ?_⟩) ?_ ?_; rotate_left; (intro w'; go_simp; with_reducible rfl); rotate_left; (simp only [Act.put, sI_, s0_, sS_, i64_w, i32_w]; rfl)
   refine one_ (i := 9) (N := none) (bA 10 12) rfl rfl (one_of HT_.out (by kernel_rfl)) (by decide) (fun K hK => ?_)
   have hs34 : w33.cell? ⟨gb461, 2, none⟩ = some (.int .i64 t454) := (blk_cell BK461.out 2).trans rfl
   have hfs34 := blk_frozen BK461.out 2
   have hns34_0 := NB443_461.out
   have hns34_1 := NB444_461.out
   have hns34_2 := NB445_461.out
   have hns34_3 := NB446_461.out
   have hms34_0 := NB461_443.out
   have hms34_1 := NB461_444.out
   have hms34_2 := NB461_445.out
   have hms34_3 := NB461_446.out
   refine skip_ (w1 := ?_) (by rfl) rfl ?_ ?_
   rotate_left
   ·go_simp
    rfl
   refine hK.out _ _ ⟨((cell_far (p := ⟨gb461, _, none⟩) NB443_461.out _).trans (hHeld.1)), ((cell_far (p := ⟨gb461, _, none⟩) NB443_461.out _).trans (hHeld.2.1)), ((cell_far (p := ⟨gb461, _, none⟩) NB443_461.out _).trans (hHeld.2.2.1)), ((cell_far (p := ⟨gb461, _, none⟩) NB443_461.out _).trans (hHeld.2.2.2.1)), ((cell_far (p := ⟨gb461, _, none⟩) NB443_461.out _).trans (hHeld.2.2.2.2.1)), ((cell_far (p := ⟨gb461, _, none⟩) NB443_461.out _).trans (hHeld.2.2.2.2.2.1)), ((cell_far (p := ⟨gb461, _, none⟩) NB443_461.out _).trans (hHeld.2.2.2.2.2.2))⟩ (fun hHeld => ?_)
   clear hK K
   refine pure_ (i := 10) (N := some 32) (v := ?_) (a' := ?_) (bA 11 12) rfl rfl (any_of HT_.out (by kernel_rfl)) (fun _ _ _ h => h) (Or.inl ⟨by rfl, ?_⟩) ?_ ?_; rotate_left; (intro w'; go_simp; with_reducible rfl); rotate_left; (simp only [Act.put, sI_, s0_, sS_, i64_w, i32_w]; rfl)
   refine one_ (i := 11) (N := none) (bA 12 12) rfl rfl (one_of HT_.out (by kernel_rfl)) (by decide) (fun K hK => ?_)
   have hs35 : w33.cell? ⟨gb461, 3, none⟩ = some (.int .i64 t455) := (blk_cell BK461.out 3).trans rfl
   have hfs35 := blk_frozen BK461.out 3
   have hns35_0 := NB443_461.out
   have hns35_1 := NB444_461.out
   have hns35_2 := NB445_461.out
   have hns35_3 := NB446_461.out
   have hms35_0 := NB461_443.out
   have hms35_1 := NB461_444.out
   have hms35_2 := NB461_445.out
   have hms35_3 := NB461_446.out
   refine skip_ (w1 := ?_) (by rfl) rfl ?_ ?_
   rotate_left
   ·go_simp
    rfl
   refine hK.out _ _ ⟨((cell_far (p := ⟨gb461, _, none⟩) NB443_461.out _).trans (hHeld.1)), ((cell_far (p := ⟨gb461, _, none⟩) NB443_461.out _).trans (hHeld.2.1)), ((cell_far (p := ⟨gb461, _, none⟩) NB443_461.out _).trans (hHeld.2.2.1)), ((cell_far (p := ⟨gb461, _, none⟩) NB443_461.out _).trans (hHeld.2.2.2.1)), ((cell_far (p := ⟨gb461, _, none⟩) NB443_461.out _).trans (hHeld.2.2.2.2.1)), ((cell_far (p := ⟨gb461, _, none⟩) NB443_461.out _).trans (hHeld.2.2.2.2.2.1)), ((cell_far (p := ⟨gb461, _, none⟩) NB443_461.out _).trans (hHeld.2.2.2.2.2.2))⟩ (fun hHeld => ?_)
   clear hK K
   refine done_ (done_of HT_.out (by kernel_rfl)) ?_
   try go_wp2
   have n0_ : Aside0 (Kd.R (Kd.int .i64) 3 ((w33.setCell ⟨gb461, 2, none⟩ (.int .i64 ji7)).setCell ⟨gb461, 3, none⟩ (.int .i64 ji8)) w.heap.size (fun k_ => some k_ ≠ (.slice Ao30 t451.length co30 : Value).ownBlock) (.slice Ao24 t448.length co24) t448) := ⟨by (with_reducible repeat (first | apply Kd.R_alloc | apply Kd.R_drewN | apply Kd.R_drew)); exact Kd.R_mono (Kd.R_far (p := ⟨gb461, 3, none⟩) (Kd.R_far (p := ⟨gb461, 2, none⟩) (Kd.R_types HO450.out BK461.out (by decide)) (fun _ hk => hk.2) (.int .i64 ji7)) (fun _ hk => hk.2) (.int .i64 ji8)) (fun _ hk => hk.1)⟩
   have n1_ : Aside0 (Kd.R (Kd.int .i64) 3 ((w33.setCell ⟨gb461, 2, none⟩ (.int .i64 ji7)).setCell ⟨gb461, 3, none⟩ (.int .i64 ji8)) w.heap.size (fun k_ => some k_ ≠ (.slice Ao24 t448.length co24 : Value).ownBlock) (.slice Ao30 t451.length co30) t451) := ⟨by (with_reducible repeat (first | apply Kd.R_alloc | apply Kd.R_drewN | apply Kd.R_drew)); exact Kd.R_mono (Kd.R_far (p := ⟨gb461, 3, none⟩) (Kd.R_far (p := ⟨gb461, 2, none⟩) (Kd.R_types HO453.out BK461.out (by decide)) (fun _ hk => hk.2) (.int .i64 ji7)) (fun _ hk => hk.2) (.int .i64 ji8)) (fun _ hk => hk.1)⟩
   have n2_ : Aside0 (Kd.R k49 49 ((w33.setCell ⟨gb461, 2, none⟩ (.int .i64 ji7)).setCell ⟨gb461, 3, none⟩ (.int .i64 ji8)) w.heap.size (fun _ => True) (.slice Ao31 t458.length co31) t458) := ⟨by (with_reducible repeat (first | apply Kd.R_alloc | apply Kd.R_drewN | apply Kd.R_drew)); exact Kd.R_mono (Kd.R_far (p := ⟨gb461, 3, none⟩) (Kd.R_far (p := ⟨gb461, 2, none⟩) (Kd.R_types HO460.out BK461.out (by decide)) (fun _ hk => hk.2) (.int .i64 ji7)) (fun _ hk => hk.2) (.int .i64 ji8)) (fun _ hk => trivial)⟩
   have n3_ : Aside0 (((w33.setCell ⟨gb461, 2, none⟩ (.int .i64 ji7)).setCell ⟨gb461, 3, none⟩ (.int .i64 ji8)).heap[gb443]? = some (.cells #[.slice A1_0 l1_0.length c1_0, .slice A1_1 l1_1.length c1_1, .int .i64 a1_2, .int .i64 a1_3, .int .i64 a1_4, .int .i64 a1_5, .slice A1_6 l1_6.length c1_6] 26 (0, 0))) := ⟨by (with_reducible repeat (first | refine blk_drewN ?_ _ | refine blk_drew ?_ | refine blk_alloc ?_ _)); refine blk_far ?_ NB443_461.out _; (with_reducible repeat (first | refine blk_drewN ?_ _ | refine blk_drew ?_ | refine blk_alloc ?_ _)); refine blk_far ?_ NB443_461.out _; (with_reducible repeat (first | refine blk_drewN ?_ _ | refine blk_drew ?_ | refine blk_alloc ?_ _)); exact BK443.out⟩
   have n4_ : Aside0 (((w33.setCell ⟨gb461, 2, none⟩ (.int .i64 ji7)).setCell ⟨gb461, 3, none⟩ (.int .i64 ji8)).heap[gb444]? = some (.cells #[.int .u64 a2_0] 37 (0, 0))) := ⟨by (with_reducible repeat (first | refine blk_drewN ?_ _ | refine blk_drew ?_ | refine blk_alloc ?_ _)); refine blk_far ?_ NB444_461.out _; (with_reducible repeat (first | refine blk_drewN ?_ _ | refine blk_drew ?_ | refine blk_alloc ?_ _)); refine blk_far ?_ NB444_461.out _; (with_reducible repeat (first | refine blk_drewN ?_ _ | refine blk_drew ?_ | refine blk_alloc ?_ _)); exact BK444.out⟩
   have n5_ : Aside0 (((w33.setCell ⟨gb461, 2, none⟩ (.int .i64 ji7)).setCell ⟨gb461, 3, none⟩ (.int .i64 ji8)).heap[gb445]? = some (.cells #[.slice none 0 0, .slice none 0 0, .int .i64 0, .int .i64 0, .int .i64 0, .int .i64 0, .slice none 0 0] 26 (0, 0))) := ⟨by (with_reducible repeat (first | refine blk_drewN ?_ _ | refine blk_drew ?_ | refine blk_alloc ?_ _)); refine blk_far ?_ NB445_461.out _; (with_reducible repeat (first | refine blk_drewN ?_ _ | refine blk_drew ?_ | refine blk_alloc ?_ _)); refine blk_far ?_ NB445_461.out _; (with_reducible repeat (first | refine blk_drewN ?_ _ | refine blk_drew ?_ | refine blk_alloc ?_ _)); exact BK445.out⟩
   have n6_ : Aside0 (((w33.setCell ⟨gb461, 2, none⟩ (.int .i64 ji7)).setCell ⟨gb461, 3, none⟩ (.int .i64 ji8)).heap[gb446]? = some (.cells #[.int .u64 0] 37 (0, 0))) := ⟨by (with_reducible repeat (first | refine blk_drewN ?_ _ | refine blk_drew ?_ | refine blk_alloc ?_ _)); refine blk_far ?_ NB446_461.out _; (with_reducible repeat (first | refine blk_drewN ?_ _ | refine blk_drew ?_ | refine blk_alloc ?_ _)); refine blk_far ?_ NB446_461.out _; (with_reducible repeat (first | refine blk_drewN ?_ _ | refine blk_drew ?_ | refine blk_alloc ?_ _)); exact BK446.out⟩
   have n7_ : Aside0 (((w33.setCell ⟨gb461, 2, none⟩ (.int .i64 ji7)).setCell ⟨gb461, 3, none⟩ (.int .i64 ji8)).heap[gb461]? = some (.cells #[.slice Ao24 t448.length co24, .slice Ao30 t451.length co30, .int .i64 ji7, .int .i64 ji8, .int .i64 t456, .int .i64 t457, .slice Ao31 t458.length co31] 26 (0, 0))) := ⟨by (with_reducible repeat (first | refine blk_drewN ?_ _ | refine blk_drew ?_ | refine blk_alloc ?_ _)); refine blk_put (cs := #[.slice Ao24 t448.length co24, .slice Ao30 t451.length co30, .int .i64 ji7, .int .i64 t455, .int .i64 t456, .int .i64 t457, .slice Ao31 t458.length co31]) ?_ 3 _ rfl; (with_reducible repeat (first | refine blk_drewN ?_ _ | refine blk_drew ?_ | refine blk_alloc ?_ _)); refine blk_put (cs := #[.slice Ao24 t448.length co24, .slice Ao30 t451.length co30, .int .i64 t454, .int .i64 t455, .int .i64 t456, .int .i64 t457, .slice Ao31 t458.length co31]) ?_ 2 _ rfl; (with_reducible repeat (first | refine blk_drewN ?_ _ | refine blk_drew ?_ | refine blk_alloc ?_ _)); exact BK461.out⟩
   have n8_ : Aside0 (Below w.heap.size w ((w33.setCell ⟨gb461, 2, none⟩ (.int .i64 ji7)).setCell ⟨gb461, 3, none⟩ (.int .i64 ji8))) := ⟨by repeat (first | (with_reducible first | exact HB.out | apply below_alloc | apply pw_below_drewN | apply below_drew1 | refine below_set ?_ GE443.out | refine below_set ?_ GE444.out | refine below_set ?_ GE445.out | refine below_set ?_ GE446.out | refine below_set ?_ GE461.out) | exact HB.out)⟩
   (try clear HO450)
   (try clear HO453)
   (try clear HO460)
   (try clear BK443)
   (try clear BK444)
   (try clear BK445)
   (try clear BK446)
   (try clear BK461)
   (try clear HB)
   generalize ((w33.setCell ⟨gb461, 2, none⟩ (.int .i64 ji7)).setCell ⟨gb461, 3, none⟩ (.int .i64 ji8)) = w36 at n0_ n1_ n2_ n3_ n4_ n5_ n6_ n7_ n8_ ⊢
   have HO450 := n0_
   have HO453 := n1_
   have HO460 := n2_
   have BK443 := n3_
   have BK444 := n4_
   have BK445 := n5_
   have BK446 := n6_
   have BK461 := n7_
   have HB := n8_
   clear n0_ n1_ n2_ n3_ n4_ n5_ n6_ n7_ n8_
   replace HO450 := Aside0.mk (Kd.R_drew HO450.out)
   replace HO453 := Aside0.mk (Kd.R_drew HO453.out)
   replace HO460 := Aside0.mk (Kd.R_drew HO460.out)
   replace BK443 := Aside0.mk (blk_drew BK443.out)
   replace BK444 := Aside0.mk (blk_drew BK444.out)
   replace BK445 := Aside0.mk (blk_drew BK445.out)
   replace BK446 := Aside0.mk (blk_drew BK446.out)
   replace BK461 := Aside0.mk (blk_drew BK461.out)
   replace HB := Aside0.mk (below_drew1 HB.out)
   refine start_ (n := 10) (S := fun w' => w'.cell? ⟨gb443, 0, none⟩ = some (.slice A1_0 l1_0.length c1_0) ∧ w'.cell? ⟨gb443, 1, none⟩ = some (.slice A1_1 l1_1.length c1_1) ∧ w'.cell? ⟨gb443, 2, none⟩ = some (.int .i64 a1_2) ∧ w'.cell? ⟨gb443, 3, none⟩ = some (.int .i64 a1_3) ∧ w'.cell? ⟨gb443, 4, none⟩ = some (.int .i64 a1_4) ∧ w'.cell? ⟨gb443, 5, none⟩ = some (.int .i64 a1_5) ∧ w'.cell? ⟨gb443, 6, none⟩ = some (.slice A1_6 l1_6.length c1_6) ∧ w'.cell? ⟨gb461, 0, none⟩ = some (.slice Ao24 t448.length co24) ∧ w'.cell? ⟨gb461, 1, none⟩ = some (.slice Ao30 t451.length co30) ∧ w'.cell? ⟨gb461, 2, none⟩ = some (.int .i64 ji7) ∧ w'.cell? ⟨gb461, 3, none⟩ = some (.int .i64 ji8) ∧ w'.cell? ⟨gb461, 4, none⟩ = some (.int .i64 t456) ∧ w'.cell? ⟨gb461, 5, none⟩ = some (.int .i64 t457) ∧ w'.cell? ⟨gb461, 6, none⟩ = some (.slice Ao31 t458.length co31)) (ds := [9]) #[false, false, false, false, false, false, false, false, false, false] (by kernel_rfl) rfl rfl ⟨(blk_cell BK443.out 0).trans rfl, (blk_cell BK443.out 1).trans rfl, (blk_cell BK443.out 2).trans rfl, (blk_cell BK443.out 3).trans rfl, (blk_cell BK443.out 4).trans rfl, (blk_cell BK443.out 5).trans rfl, (blk_cell BK443.out 6).trans rfl, (blk_cell BK461.out 0).trans rfl, (blk_cell BK461.out 1).trans rfl, (blk_cell BK461.out 2).trans rfl, (blk_cell BK461.out 3).trans rfl, (blk_cell BK461.out 4).trans rfl, (blk_cell BK461.out 5).trans rfl, (blk_cell BK461.out 6).trans rfl⟩ (fun hHeld => ?_); refine with_tabW fleet_Day.tab6 fleet_Day.bits6 (fun HT_ HW_ => ?_)
   generalize w36.drew = w37 at HO450 HO453 HO460 BK443 BK444 BK445 BK446 BK461 HB hHeld ⊢
   refine pure_ (i := 0) (N := some 33) (v := ?_) (a' := ?_) (bA 1 10) rfl rfl (any_of HT_.out (by kernel_rfl)) (fun _ _ _ h => h) (Or.inl ⟨by rfl, ?_⟩) ?_ ?_; rotate_left; (intro w'; go_simp; with_reducible rfl); rotate_left; (simp only [Act.put, sI_, s0_, sS_, i64_w, i32_w]; rfl)
   refine pure_ (i := 3) (N := some 36) (v := ?_) (a' := ?_) #[true, false, false, true, false, false, false, false, false, false] rfl rfl (any_of HT_.out (by kernel_rfl)) (fun _ _ _ h => h) (Or.inl ⟨by rfl, ?_⟩) ?_ ?_; rotate_left; (intro w'; go_simp; with_reducible rfl); rotate_left; (simp only [Act.put, sI_, s0_, sS_, i64_w, i32_w]; rfl)
   refine take_ (i := 1) (N := some 34) (v := ?_) (a' := ?_) #[true, true, false, true, false, false, false, false, false, false] rfl rfl (take_ofW HT_.out HW_.out (by kernel_rfl)) (fun _ _ _ h => h) (Or.inl ⟨by rfl, ?_⟩) hHeld ?_ ?_; rotate_left; (rintro w' ⟨s0, s1, s2, s3, s4, s5, s6, s7, s8, s9, s10, s11, s12, s13⟩; go_simp; with_reducible rfl); rotate_left; (simp only [Act.put, sI_, s0_, sS_, i64_w, i32_w]; rfl)
   refine pure_ (i := 2) (N := some 35) (v := ?_) (a' := ?_) (bA 4 10) rfl rfl (any_of HT_.out (by kernel_rfl)) (fun _ _ _ h => h) (Or.inl ⟨by rfl, ?_⟩) ?_ ?_; rotate_left; (intro w'; go_simp; with_reducible rfl); rotate_left; (simp only [Act.put, sI_, s0_, sS_, i64_w, i32_w]; rfl)
   refine take_ (i := 4) (N := some 37) (v := ?_) (a' := ?_) (bA 5 10) rfl rfl (take_ofW HT_.out HW_.out (by kernel_rfl)) (fun _ _ _ h => h) (Or.inl ⟨by rfl, ?_⟩) hHeld ?_ ?_; rotate_left; (rintro w' ⟨s0, s1, s2, s3, s4, s5, s6, s7, s8, s9, s10, s11, s12, s13⟩; go_simp; with_reducible rfl); rotate_left; (simp only [Act.put, sI_, s0_, sS_, i64_w, i32_w]; rfl)
   refine one_ (i := 5) (N := some 38) (bA 6 10) rfl rfl (one_of HT_.out (by kernel_rfl)) (by decide) (fun K hK => ?_)
   refine goes_ Try.func30 (by kernel_rfl) rfl #[.slice A0 l0.length c0, .agg #[.slice Ao24 t448.length co24, .slice Ao30 t451.length co30, .int .i64 ji7, .int .i64 ji8, .int .i64 t456, .int .i64 t457, .slice Ao31 t458.length co31]] (by rfl) rfl rfl (by (try simp only [List.map_toArray, List.map_cons, List.map_nil]); first | done | (simp only [hji7, hji8]; rfl) | rfl | (simp only [List.length_drop, List.length_take]; rfl)) ?_
   with_reducible refine (fleet_spans.calls k _ _ l0 _ _ t448 _ _ t451 ji7 ji8 t456 t457 _ _ t458 t462 _ ?side1 ?side2 ?side3 ?side4 ?side5 ?side6 ?side7 ?side8 A9.out).mono ?_
   (case side1 => exact dC_ HR0 HB)
   (case side2 => exact HC0.out)
   (case side3 => repeat (first | exact (Kd.R_reads' HO450.out).2.2 | (with_reducible refine Kd.C_alloc ?_ _) | (with_reducible refine Kd.C_drewN ?_ _) | (with_reducible refine Kd.C_drew ?_)))
   (case side4 => exact (Kd.R_reads' HO450.out).2.1)
   (case side5 => repeat (first | exact (Kd.R_reads' HO453.out).2.2 | (with_reducible refine Kd.C_alloc ?_ _) | (with_reducible refine Kd.C_drewN ?_ _) | (with_reducible refine Kd.C_drew ?_)))
   (case side6 => exact (Kd.R_reads' HO453.out).2.1)
   (case side7 => repeat (first | exact (Kd.R_reads' HO460.out).2.2 | (with_reducible refine Kd.C_alloc ?_ _) | (with_reducible refine Kd.C_drewN ?_ _) | (with_reducible refine Kd.C_drew ?_)))
   (case side8 => exact (Kd.R_reads' HO460.out).2.1)
   rintro e w38 ⟨rfl, hb⟩
   refine ⟨_, rfl, ?_⟩
   replace HO450 := Aside0.mk (Kd.R_below (dR_ HO450) hb)
   replace HO453 := Aside0.mk (Kd.R_below (dR_ HO453) hb)
   replace HO460 := Aside0.mk (Kd.R_below (dR_ HO460) hb)
   replace BK443 := Aside0.mk (blk_below (g := gb443) (o := .cells #[.slice A1_0 l1_0.length c1_0, .slice A1_1 l1_1.length c1_1, .int .i64 a1_2, .int .i64 a1_3, .int .i64 a1_4, .int .i64 a1_5, .slice A1_6 l1_6.length c1_6] 26 (0, 0)) (dB_ BK443) hb)
   replace BK444 := Aside0.mk (blk_below (g := gb444) (o := .cells #[.int .u64 a2_0] 37 (0, 0)) (dB_ BK444) hb)
   replace BK445 := Aside0.mk (blk_below (g := gb445) (o := .cells #[.slice none 0 0, .slice none 0 0, .int .i64 0, .int .i64 0, .int .i64 0, .int .i64 0, .slice none 0 0] 26 (0, 0)) (dB_ BK445) hb)
   replace BK446 := Aside0.mk (blk_below (g := gb446) (o := .cells #[.int .u64 0] 37 (0, 0)) (dB_ BK446) hb)
   replace BK461 := Aside0.mk (blk_below (g := gb461) (o := .cells #[.slice Ao24 t448.length co24, .slice Ao30 t451.length co30, .int .i64 ji7, .int .i64 ji8, .int .i64 t456, .int .i64 t457, .slice Ao31 t458.length co31] 26 (0, 0)) (dB_ BK461) hb)
   replace HB := Aside0.mk (below_step (by repeat (first | (with_reducible first | exact HB.out | apply below_alloc | apply pw_below_drewN | apply below_drew1 | refine below_set ?_ GE443.out | refine below_set ?_ GE444.out | refine below_set ?_ GE445.out | refine below_set ?_ GE446.out | refine below_set ?_ GE461.out) | exact HB.out)) hb)
   (try clear hb)
   (try clear hb2)
   (try clear hk)
   (try clear hi)
   refine hK.out _ _ ⟨(blk_cell BK443.out 0).trans rfl, (blk_cell BK443.out 1).trans rfl, (blk_cell BK443.out 2).trans rfl, (blk_cell BK443.out 3).trans rfl, (blk_cell BK443.out 4).trans rfl, (blk_cell BK443.out 5).trans rfl, (blk_cell BK443.out 6).trans rfl, (blk_cell BK461.out 0).trans rfl, (blk_cell BK461.out 1).trans rfl, (blk_cell BK461.out 2).trans rfl, (blk_cell BK461.out 3).trans rfl, (blk_cell BK461.out 4).trans rfl, (blk_cell BK461.out 5).trans rfl, (blk_cell BK461.out 6).trans rfl⟩ (fun hHeld => ?_)
   clear hK K
   refine norm_ (a' := ?_) ?_ ?_
   rotate_left
   ·show Act.put _ (some 38) _ = _
    simp only [Act.put, sI_, s0_, sS_, i64_w, i32_w]
    rfl
   refine pure_ (i := 6) (N := some 39) (v := ?_) (a' := ?_) (bA 7 10) rfl rfl (any_of HT_.out (by kernel_rfl)) (fun _ _ _ h => h) (Or.inl ⟨by rfl, ?_⟩) ?_ ?_; rotate_left; (intro w'; go_simp; with_reducible rfl); rotate_left; (simp only [Act.put, sI_, s0_, sS_, i64_w, i32_w]; rfl)
   refine pure_ (i := 7) (N := some 40) (v := ?_) (a' := ?_) (bA 8 10) rfl rfl (any_of HT_.out (by kernel_rfl)) (fun _ _ _ h => h) (Or.inl ⟨by rfl, ?_⟩) ?_ ?_; rotate_left; (intro w'; go_simp; with_reducible rfl); rotate_left; (simp only [Act.put, sI_, s0_, sS_, i64_w, i32_w]; rfl)
   refine pure_ (i := 8) (N := some 41) (v := ?_) (a' := ?_) (bA 9 10) rfl rfl (any_of HT_.out (by kernel_rfl)) (fun _ _ _ h => h) (Or.inl ⟨by rfl, ?_⟩) ?_ ?_; rotate_left; (intro w'; go_simp; with_reducible rfl); rotate_left; (simp only [Act.put, sI_, s0_, sS_, i64_w, i32_w]; rfl)
   refine last_ (i := 9) (N := none) #[true, true, true, true, true, true, true, true, true, true] rfl rfl (one_of HT_.out (by kernel_rfl)) (by decide) (fun K hK => ?_)
   have hs39 : w38.cell? ⟨gb461, 4, none⟩ = some (.int .i64 t456) := (blk_cell BK461.out 4).trans rfl
   have hfs39 := blk_frozen BK461.out 4
   have hns39_0 := NB443_461.out
   have hns39_1 := NB444_461.out
   have hns39_2 := NB445_461.out
   have hns39_3 := NB446_461.out
   have hms39_0 := NB461_443.out
   have hms39_1 := NB461_444.out
   have hms39_2 := NB461_445.out
   have hms39_3 := NB461_446.out
   refine skip_ (w1 := ?_) (by rfl) rfl ?_ ?_
   rotate_left
   ·go_simp
    rfl
   refine hK.out _ _ ?_
   clear hK K
   refine done_ (done_of HT_.out (by kernel_rfl)) ?_
   obtain ⟨hcz40_0, hcz40_1, hcz40_2, hcz40_3, hcz40_4, hcz40_5, hcz40_6, hfz40_0, hfz40_1, hfz40_2, hfz40_3, hfz40_4, hfz40_5, hfz40_6⟩ := cs7_ BK443.out
   try go_wp2
   have n0_ : Aside0 (Kd.R (Kd.int .i64) 3 (w38.setCell ⟨gb461, 4, none⟩ (.int .i64 ji10)) w.heap.size (fun k_ => some k_ ≠ (.slice Ao30 t451.length co30 : Value).ownBlock) (.slice Ao24 t448.length co24) t448) := ⟨by (with_reducible repeat (first | apply Kd.R_alloc | apply Kd.R_drewN | apply Kd.R_drew)); exact Kd.R_mono (Kd.R_far (p := ⟨gb461, 4, none⟩) (Kd.R_types HO450.out BK461.out (by decide)) (fun _ hk => hk.2) (.int .i64 ji10)) (fun _ hk => hk.1)⟩
   have n1_ : Aside0 (Kd.R (Kd.int .i64) 3 (w38.setCell ⟨gb461, 4, none⟩ (.int .i64 ji10)) w.heap.size (fun k_ => some k_ ≠ (.slice Ao24 t448.length co24 : Value).ownBlock) (.slice Ao30 t451.length co30) t451) := ⟨by (with_reducible repeat (first | apply Kd.R_alloc | apply Kd.R_drewN | apply Kd.R_drew)); exact Kd.R_mono (Kd.R_far (p := ⟨gb461, 4, none⟩) (Kd.R_types HO453.out BK461.out (by decide)) (fun _ hk => hk.2) (.int .i64 ji10)) (fun _ hk => hk.1)⟩
   have n2_ : Aside0 (Kd.R k49 49 (w38.setCell ⟨gb461, 4, none⟩ (.int .i64 ji10)) w.heap.size (fun _ => True) (.slice Ao31 t458.length co31) t458) := ⟨by (with_reducible repeat (first | apply Kd.R_alloc | apply Kd.R_drewN | apply Kd.R_drew)); exact Kd.R_mono (Kd.R_far (p := ⟨gb461, 4, none⟩) (Kd.R_types HO460.out BK461.out (by decide)) (fun _ hk => hk.2) (.int .i64 ji10)) (fun _ hk => trivial)⟩
   have n3_ : Aside0 ((w38.setCell ⟨gb461, 4, none⟩ (.int .i64 ji10)).heap[gb443]? = some (.cells #[.slice A1_0 l1_0.length c1_0, .slice A1_1 l1_1.length c1_1, .int .i64 a1_2, .int .i64 a1_3, .int .i64 a1_4, .int .i64 a1_5, .slice A1_6 l1_6.length c1_6] 26 (0, 0))) := ⟨by (with_reducible repeat (first | refine blk_drewN ?_ _ | refine blk_drew ?_ | refine blk_alloc ?_ _)); refine blk_far ?_ NB443_461.out _; (with_reducible repeat (first | refine blk_drewN ?_ _ | refine blk_drew ?_ | refine blk_alloc ?_ _)); exact BK443.out⟩
   have n4_ : Aside0 ((w38.setCell ⟨gb461, 4, none⟩ (.int .i64 ji10)).heap[gb444]? = some (.cells #[.int .u64 a2_0] 37 (0, 0))) := ⟨by (with_reducible repeat (first | refine blk_drewN ?_ _ | refine blk_drew ?_ | refine blk_alloc ?_ _)); refine blk_far ?_ NB444_461.out _; (with_reducible repeat (first | refine blk_drewN ?_ _ | refine blk_drew ?_ | refine blk_alloc ?_ _)); exact BK444.out⟩
   have n5_ : Aside0 ((w38.setCell ⟨gb461, 4, none⟩ (.int .i64 ji10)).heap[gb445]? = some (.cells #[.slice none 0 0, .slice none 0 0, .int .i64 0, .int .i64 0, .int .i64 0, .int .i64 0, .slice none 0 0] 26 (0, 0))) := ⟨by (with_reducible repeat (first | refine blk_drewN ?_ _ | refine blk_drew ?_ | refine blk_alloc ?_ _)); refine blk_far ?_ NB445_461.out _; (with_reducible repeat (first | refine blk_drewN ?_ _ | refine blk_drew ?_ | refine blk_alloc ?_ _)); exact BK445.out⟩
   have n6_ : Aside0 ((w38.setCell ⟨gb461, 4, none⟩ (.int .i64 ji10)).heap[gb446]? = some (.cells #[.int .u64 0] 37 (0, 0))) := ⟨by (with_reducible repeat (first | refine blk_drewN ?_ _ | refine blk_drew ?_ | refine blk_alloc ?_ _)); refine blk_far ?_ NB446_461.out _; (with_reducible repeat (first | refine blk_drewN ?_ _ | refine blk_drew ?_ | refine blk_alloc ?_ _)); exact BK446.out⟩
   have n7_ : Aside0 ((w38.setCell ⟨gb461, 4, none⟩ (.int .i64 ji10)).heap[gb461]? = some (.cells #[.slice Ao24 t448.length co24, .slice Ao30 t451.length co30, .int .i64 ji7, .int .i64 ji8, .int .i64 ji10, .int .i64 t457, .slice Ao31 t458.length co31] 26 (0, 0))) := ⟨by (with_reducible repeat (first | refine blk_drewN ?_ _ | refine blk_drew ?_ | refine blk_alloc ?_ _)); refine blk_put (cs := #[.slice Ao24 t448.length co24, .slice Ao30 t451.length co30, .int .i64 ji7, .int .i64 ji8, .int .i64 t456, .int .i64 t457, .slice Ao31 t458.length co31]) ?_ 4 _ rfl; (with_reducible repeat (first | refine blk_drewN ?_ _ | refine blk_drew ?_ | refine blk_alloc ?_ _)); exact BK461.out⟩
   have n8_ : Aside0 (Below w.heap.size w (w38.setCell ⟨gb461, 4, none⟩ (.int .i64 ji10))) := ⟨by repeat (first | (with_reducible first | exact HB.out | apply below_alloc | apply pw_below_drewN | apply below_drew1 | refine below_set ?_ GE443.out | refine below_set ?_ GE444.out | refine below_set ?_ GE445.out | refine below_set ?_ GE446.out | refine below_set ?_ GE461.out) | exact HB.out)⟩
   (try clear HO450)
   (try clear HO453)
   (try clear HO460)
   (try clear BK443)
   (try clear BK444)
   (try clear BK445)
   (try clear BK446)
   (try clear BK461)
   (try clear HB)
   generalize (w38.setCell ⟨gb461, 4, none⟩ (.int .i64 ji10)) = w41 at n0_ n1_ n2_ n3_ n4_ n5_ n6_ n7_ n8_ ⊢
   have HO450 := n0_
   have HO453 := n1_
   have HO460 := n2_
   have BK443 := n3_
   have BK444 := n4_
   have BK445 := n5_
   have BK446 := n6_
   have BK461 := n7_
   have HB := n8_
   clear n0_ n1_ n2_ n3_ n4_ n5_ n6_ n7_ n8_
   replace HO450 := Aside0.mk (Kd.R_drew HO450.out)
   replace HO453 := Aside0.mk (Kd.R_drew HO453.out)
   replace HO460 := Aside0.mk (Kd.R_drew HO460.out)
   replace BK443 := Aside0.mk (blk_drew BK443.out)
   replace BK444 := Aside0.mk (blk_drew BK444.out)
   replace BK445 := Aside0.mk (blk_drew BK445.out)
   replace BK446 := Aside0.mk (blk_drew BK446.out)
   replace BK461 := Aside0.mk (blk_drew BK461.out)
   replace HB := Aside0.mk (below_drew1 HB.out)
   refine start_ (n := 6) (S := fun w' => w'.cell? ⟨gb461, 0, none⟩ = some (.slice Ao24 t448.length co24) ∧ w'.cell? ⟨gb461, 1, none⟩ = some (.slice Ao30 t451.length co30) ∧ w'.cell? ⟨gb461, 2, none⟩ = some (.int .i64 ji7) ∧ w'.cell? ⟨gb461, 3, none⟩ = some (.int .i64 ji8) ∧ w'.cell? ⟨gb461, 4, none⟩ = some (.int .i64 ji10) ∧ w'.cell? ⟨gb461, 5, none⟩ = some (.int .i64 t457) ∧ w'.cell? ⟨gb461, 6, none⟩ = some (.slice Ao31 t458.length co31) ∧ w'.cell? ⟨gb444, 0, none⟩ = some (.int .u64 a2_0)) (ds := []) #[false, false, false, false, false, false] (by kernel_rfl) rfl rfl ⟨(blk_cell BK461.out 0).trans rfl, (blk_cell BK461.out 1).trans rfl, (blk_cell BK461.out 2).trans rfl, (blk_cell BK461.out 3).trans rfl, (blk_cell BK461.out 4).trans rfl, (blk_cell BK461.out 5).trans rfl, (blk_cell BK461.out 6).trans rfl, (blk_cell BK444.out 0).trans rfl⟩ (fun hHeld => ?_)
   generalize w41.drew = w42 at HO450 HO453 HO460 BK443 BK444 BK445 BK446 BK461 HB hHeld ⊢
   refine take_ (i := 0) (N := some 45) (v := ?_) (a' := ?_) (bA 1 6) rfl rfl (by kernel_rfl) (fun _ _ _ h => h) (Or.inl ⟨by rfl, ?_⟩) hHeld ?_ ?_; rotate_left; (rintro w' ⟨s0, s1, s2, s3, s4, s5, s6, s7⟩; go_simp; with_reducible rfl); rotate_left; (simp only [Act.put, sI_, s0_, sS_, i64_w, i32_w]; rfl)
   refine take_ (i := 1) (N := some 46) (v := ?_) (a' := ?_) (bA 2 6) rfl rfl (by kernel_rfl) (fun _ _ _ h => h) (Or.inl ⟨by rfl, ?_⟩) hHeld ?_ ?_; rotate_left; (rintro w' ⟨s0, s1, s2, s3, s4, s5, s6, s7⟩; go_simp; with_reducible rfl); rotate_left; (simp only [Act.put, sI_, s0_, sS_, i64_w, i32_w]; rfl)
   refine one_ (i := 2) (N := none) (bA 3 6) rfl rfl (by kernel_rfl) (by decide) (fun K hK => ?_)
   have hs43 : w42.cell? ⟨gb445, 0, none⟩ = some (.slice none 0 0) := (blk_cell BK445.out 0).trans rfl
   have hfs43 := blk_frozen BK445.out 0
   have hns43_0 := NB443_445.out
   have hns43_1 := NB444_445.out
   have hns43_3 := NB446_445.out
   have hns43_4 := NB461_445.out
   have hms43_0 := NB445_443.out
   have hms43_1 := NB445_444.out
   have hms43_3 := NB445_446.out
   have hms43_4 := NB445_461.out
   have hs44 : w42.cell? ⟨gb445, 1, none⟩ = some (.slice none 0 0) := (blk_cell BK445.out 1).trans rfl
   have hfs44 := blk_frozen BK445.out 1
   have hns44_0 := NB443_445.out
   have hns44_1 := NB444_445.out
   have hns44_3 := NB446_445.out
   have hns44_4 := NB461_445.out
   have hms44_0 := NB445_443.out
   have hms44_1 := NB445_444.out
   have hms44_3 := NB445_446.out
   have hms44_4 := NB445_461.out
   have hs45 : w42.cell? ⟨gb445, 2, none⟩ = some (.int .i64 0) := (blk_cell BK445.out 2).trans rfl
   have hfs45 := blk_frozen BK445.out 2
   have hns45_0 := NB443_445.out
   have hns45_1 := NB444_445.out
   have hns45_3 := NB446_445.out
   have hns45_4 := NB461_445.out
   have hms45_0 := NB445_443.out
   have hms45_1 := NB445_444.out
   have hms45_3 := NB445_446.out
   have hms45_4 := NB445_461.out
   have hs46 : w42.cell? ⟨gb445, 3, none⟩ = some (.int .i64 0) := (blk_cell BK445.out 3).trans rfl
   have hfs46 := blk_frozen BK445.out 3
   have hns46_0 := NB443_445.out
   have hns46_1 := NB444_445.out
   have hns46_3 := NB446_445.out
   have hns46_4 := NB461_445.out
   have hms46_0 := NB445_443.out
   have hms46_1 := NB445_444.out
   have hms46_3 := NB445_446.out
   have hms46_4 := NB445_461.out
   have hs47 : w42.cell? ⟨gb445, 4, none⟩ = some (.int .i64 0) := (blk_cell BK445.out 4).trans rfl
   have hfs47 := blk_frozen BK445.out 4
   have hns47_0 := NB443_445.out
   have hns47_1 := NB444_445.out
   have hns47_3 := NB446_445.out
   have hns47_4 := NB461_445.out
   have hms47_0 := NB445_443.out
   have hms47_1 := NB445_444.out
   have hms47_3 := NB445_446.out
   have hms47_4 := NB445_461.out
   have hs48 : w42.cell? ⟨gb445, 5, none⟩ = some (.int .i64 0) := (blk_cell BK445.out 5).trans rfl
   have hfs48 := blk_frozen BK445.out 5
   have hns48_0 := NB443_445.out
   have hns48_1 := NB444_445.out
   have hns48_3 := NB446_445.out
   have hns48_4 := NB461_445.out
   have hms48_0 := NB445_443.out
   have hms48_1 := NB445_444.out
   have hms48_3 := NB445_446.out
   have hms48_4 := NB445_461.out
   have hs49 : w42.cell? ⟨gb445, 6, none⟩ = some (.slice none 0 0) := (blk_cell BK445.out 6).trans rfl
   have hfs49 := blk_frozen BK445.out 6
   have hns49_0 := NB443_445.out
   have hns49_1 := NB444_445.out
   have hns49_3 := NB446_445.out
   have hns49_4 := NB461_445.out
   have hms49_0 := NB445_443.out
   have hms49_1 := NB445_444.out
   have hms49_3 := NB445_446.out
   have hms49_4 := NB445_461.out
   refine skip_ (w1 := ?_) (by rfl) rfl ?_ ?_
   rotate_left
   ·go_simp
    rfl
   refine hK.out _ _ ⟨((cell_far (p := ⟨gb445, _, none⟩) NB461_445.out _).trans (((cell_far (p := ⟨gb445, _, none⟩) NB461_445.out _).trans (((cell_far (p := ⟨gb445, _, none⟩) NB461_445.out _).trans (((cell_far (p := ⟨gb445, _, none⟩) NB461_445.out _).trans (((cell_far (p := ⟨gb445, _, none⟩) NB461_445.out _).trans (((cell_far (p := ⟨gb445, _, none⟩) NB461_445.out _).trans (((cell_far (p := ⟨gb445, _, none⟩) NB461_445.out _).trans (hHeld.1)))))))))))))), ((cell_far (p := ⟨gb445, _, none⟩) NB461_445.out _).trans (((cell_far (p := ⟨gb445, _, none⟩) NB461_445.out _).trans (((cell_far (p := ⟨gb445, _, none⟩) NB461_445.out _).trans (((cell_far (p := ⟨gb445, _, none⟩) NB461_445.out _).trans (((cell_far (p := ⟨gb445, _, none⟩) NB461_445.out _).trans (((cell_far (p := ⟨gb445, _, none⟩) NB461_445.out _).trans (((cell_far (p := ⟨gb445, _, none⟩) NB461_445.out _).trans (hHeld.2.1)))))))))))))), ((cell_far (p := ⟨gb445, _, none⟩) NB461_445.out _).trans (((cell_far (p := ⟨gb445, _, none⟩) NB461_445.out _).trans (((cell_far (p := ⟨gb445, _, none⟩) NB461_445.out _).trans (((cell_far (p := ⟨gb445, _, none⟩) NB461_445.out _).trans (((cell_far (p := ⟨gb445, _, none⟩) NB461_445.out _).trans (((cell_far (p := ⟨gb445, _, none⟩) NB461_445.out _).trans (((cell_far (p := ⟨gb445, _, none⟩) NB461_445.out _).trans (hHeld.2.2.1)))))))))))))), ((cell_far (p := ⟨gb445, _, none⟩) NB461_445.out _).trans (((cell_far (p := ⟨gb445, _, none⟩) NB461_445.out _).trans (((cell_far (p := ⟨gb445, _, none⟩) NB461_445.out _).trans (((cell_far (p := ⟨gb445, _, none⟩) NB461_445.out _).trans (((cell_far (p := ⟨gb445, _, none⟩) NB461_445.out _).trans (((cell_far (p := ⟨gb445, _, none⟩) NB461_445.out _).trans (((cell_far (p := ⟨gb445, _, none⟩) NB461_445.out _).trans (hHeld.2.2.2.1)))))))))))))), ((cell_far (p := ⟨gb445, _, none⟩) NB461_445.out _).trans (((cell_far (p := ⟨gb445, _, none⟩) NB461_445.out _).trans (((cell_far (p := ⟨gb445, _, none⟩) NB461_445.out _).trans (((cell_far (p := ⟨gb445, _, none⟩) NB461_445.out _).trans (((cell_far (p := ⟨gb445, _, none⟩) NB461_445.out _).trans (((cell_far (p := ⟨gb445, _, none⟩) NB461_445.out _).trans (((cell_far (p := ⟨gb445, _, none⟩) NB461_445.out _).trans (hHeld.2.2.2.2.1)))))))))))))), ((cell_far (p := ⟨gb445, _, none⟩) NB461_445.out _).trans (((cell_far (p := ⟨gb445, _, none⟩) NB461_445.out _).trans (((cell_far (p := ⟨gb445, _, none⟩) NB461_445.out _).trans (((cell_far (p := ⟨gb445, _, none⟩) NB461_445.out _).trans (((cell_far (p := ⟨gb445, _, none⟩) NB461_445.out _).trans (((cell_far (p := ⟨gb445, _, none⟩) NB461_445.out _).trans (((cell_far (p := ⟨gb445, _, none⟩) NB461_445.out _).trans (hHeld.2.2.2.2.2.1)))))))))))))), ((cell_far (p := ⟨gb445, _, none⟩) NB461_445.out _).trans (((cell_far (p := ⟨gb445, _, none⟩) NB461_445.out _).trans (((cell_far (p := ⟨gb445, _, none⟩) NB461_445.out _).trans (((cell_far (p := ⟨gb445, _, none⟩) NB461_445.out _).trans (((cell_far (p := ⟨gb445, _, none⟩) NB461_445.out _).trans (((cell_far (p := ⟨gb445, _, none⟩) NB461_445.out _).trans (((cell_far (p := ⟨gb445, _, none⟩) NB461_445.out _).trans (hHeld.2.2.2.2.2.2.1)))))))))))))), ((cell_far (p := ⟨gb445, _, none⟩) NB444_445.out _).trans (((cell_far (p := ⟨gb445, _, none⟩) NB444_445.out _).trans (((cell_far (p := ⟨gb445, _, none⟩) NB444_445.out _).trans (((cell_far (p := ⟨gb445, _, none⟩) NB444_445.out _).trans (((cell_far (p := ⟨gb445, _, none⟩) NB444_445.out _).trans (((cell_far (p := ⟨gb445, _, none⟩) NB444_445.out _).trans (((cell_far (p := ⟨gb445, _, none⟩) NB444_445.out _).trans (hHeld.2.2.2.2.2.2.2))))))))))))))⟩ (fun hHeld => ?_)
   clear hK K
   refine pure_ (i := 3) (N := some 7) (v := ?_) (a' := ?_) (bA 4 6) rfl rfl (by kernel_rfl) (fun _ _ _ h => h) (Or.inl ⟨by rfl, ?_⟩) ?_ ?_; rotate_left; (intro w'; go_simp; with_reducible rfl); rotate_left; (simp only [Act.put, sI_, s0_, sS_, i64_w, i32_w]; rfl)
   refine one_ (i := 4) (N := none) (bA 5 6) rfl rfl (by kernel_rfl) (by decide) (fun K hK => ?_)
   have hs50 : w42.cell? ⟨gb446, 0, none⟩ = some (.int .u64 0) := (blk_cell BK446.out 0).trans rfl
   have hfs50 := blk_frozen BK446.out 0
   have hns50_0 := NB443_446.out
   have hns50_1 := NB444_446.out
   have hns50_2 := NB445_446.out
   have hns50_4 := NB461_446.out
   have hms50_0 := NB446_443.out
   have hms50_1 := NB446_444.out
   have hms50_2 := NB446_445.out
   have hms50_4 := NB446_461.out
   refine skip_ (w1 := ?_) ?_ ?_ ?_ ?_; rotate_left; kernel_rfl; kernel_rfl; (go_simp; rfl)
   refine hK.out _ _ ⟨((cell_far (p := ⟨gb446, _, none⟩) NB461_446.out _).trans (hHeld.1)), ((cell_far (p := ⟨gb446, _, none⟩) NB461_446.out _).trans (hHeld.2.1)), ((cell_far (p := ⟨gb446, _, none⟩) NB461_446.out _).trans (hHeld.2.2.1)), ((cell_far (p := ⟨gb446, _, none⟩) NB461_446.out _).trans (hHeld.2.2.2.1)), ((cell_far (p := ⟨gb446, _, none⟩) NB461_446.out _).trans (hHeld.2.2.2.2.1)), ((cell_far (p := ⟨gb446, _, none⟩) NB461_446.out _).trans (hHeld.2.2.2.2.2.1)), ((cell_far (p := ⟨gb446, _, none⟩) NB461_446.out _).trans (hHeld.2.2.2.2.2.2.1)), ((cell_far (p := ⟨gb446, _, none⟩) NB444_446.out _).trans (hHeld.2.2.2.2.2.2.2))⟩ (fun hHeld => ?_)
   clear hK K
   refine pure_ (i := 5) (N := some 9) (v := ?_) (a' := ?_) (bA 6 6) rfl rfl (by kernel_rfl) (fun _ _ _ h => h) (Or.inl ⟨by rfl, ?_⟩) ?_ ?_; rotate_left; (intro w'; go_simp; with_reducible rfl); rotate_left; (simp only [Act.put, sI_, s0_, sS_, i64_w, i32_w]; rfl)
   refine done_ (by kernel_rfl) ?_
   try go_wp2
   refine bodyPost_ret (results_list (rs := [.cell 6 26, .tmp 7, .cell 8 37, .tmp 9]) rfl (by simp) (.cell gb445 26 #[.slice Ao24 t448.length co24, .slice Ao30 t451.length co30, .int .i64 ji7, .int .i64 ji8, .int .i64 ji10, .int .i64 t457, .slice Ao31 t458.length co31] (0, 0) _ rfl (by (with_reducible repeat (first | refine blk_drewN ?_ _ | refine blk_drew ?_ | refine blk_alloc ?_ _)); refine blk_far ?_ NB445_446.out _; (with_reducible repeat (first | refine blk_drewN ?_ _ | refine blk_drew ?_ | refine blk_alloc ?_ _)); refine blk_put (cs := #[.slice Ao24 t448.length co24, .slice Ao30 t451.length co30, .int .i64 ji7, .int .i64 ji8, .int .i64 ji10, .int .i64 t457, .slice none 0 0]) ?_ 6 _ rfl; (with_reducible repeat (first | refine blk_drewN ?_ _ | refine blk_drew ?_ | refine blk_alloc ?_ _)); refine blk_put (cs := #[.slice Ao24 t448.length co24, .slice Ao30 t451.length co30, .int .i64 ji7, .int .i64 ji8, .int .i64 ji10, .int .i64 0, .slice none 0 0]) ?_ 5 _ rfl; (with_reducible repeat (first | refine blk_drewN ?_ _ | refine blk_drew ?_ | refine blk_alloc ?_ _)); refine blk_put (cs := #[.slice Ao24 t448.length co24, .slice Ao30 t451.length co30, .int .i64 ji7, .int .i64 ji8, .int .i64 0, .int .i64 0, .slice none 0 0]) ?_ 4 _ rfl; (with_reducible repeat (first | refine blk_drewN ?_ _ | refine blk_drew ?_ | refine blk_alloc ?_ _)); refine blk_put (cs := #[.slice Ao24 t448.length co24, .slice Ao30 t451.length co30, .int .i64 ji7, .int .i64 0, .int .i64 0, .int .i64 0, .slice none 0 0]) ?_ 3 _ rfl; (with_reducible repeat (first | refine blk_drewN ?_ _ | refine blk_drew ?_ | refine blk_alloc ?_ _)); refine blk_put (cs := #[.slice Ao24 t448.length co24, .slice Ao30 t451.length co30, .int .i64 0, .int .i64 0, .int .i64 0, .int .i64 0, .slice none 0 0]) ?_ 2 _ rfl; (with_reducible repeat (first | refine blk_drewN ?_ _ | refine blk_drew ?_ | refine blk_alloc ?_ _)); refine blk_put (cs := #[.slice Ao24 t448.length co24, .slice none 0 0, .int .i64 0, .int .i64 0, .int .i64 0, .int .i64 0, .slice none 0 0]) ?_ 1 _ rfl; (with_reducible repeat (first | refine blk_drewN ?_ _ | refine blk_drew ?_ | refine blk_alloc ?_ _)); refine blk_put (cs := #[.slice none 0 0, .slice none 0 0, .int .i64 0, .int .i64 0, .int .i64 0, .int .i64 0, .slice none 0 0]) ?_ 0 _ rfl; (with_reducible repeat (first | refine blk_drewN ?_ _ | refine blk_drew ?_ | refine blk_alloc ?_ _)); exact BK445.out) Try.underlying26 rfl (by kernel_rfl) (.tmp (.cell gb446 37 #[.int .u64 a2_0] (0, 0) _ rfl (by (with_reducible repeat (first | refine blk_drewN ?_ _ | refine blk_drew ?_ | refine blk_alloc ?_ _)); refine blk_put (cs := #[.int .u64 0]) ?_ 0 _ rfl; (with_reducible repeat (first | refine blk_drewN ?_ _ | refine blk_drew ?_ | refine blk_alloc ?_ _)); refine blk_far ?_ NB446_445.out _; (with_reducible repeat (first | refine blk_drewN ?_ _ | refine blk_drew ?_ | refine blk_alloc ?_ _)); refine blk_far ?_ NB446_445.out _; (with_reducible repeat (first | refine blk_drewN ?_ _ | refine blk_drew ?_ | refine blk_alloc ?_ _)); refine blk_far ?_ NB446_445.out _; (with_reducible repeat (first | refine blk_drewN ?_ _ | refine blk_drew ?_ | refine blk_alloc ?_ _)); refine blk_far ?_ NB446_445.out _; (with_reducible repeat (first | refine blk_drewN ?_ _ | refine blk_drew ?_ | refine blk_alloc ?_ _)); refine blk_far ?_ NB446_445.out _; (with_reducible repeat (first | refine blk_drewN ?_ _ | refine blk_drew ?_ | refine blk_alloc ?_ _)); refine blk_far ?_ NB446_445.out _; (with_reducible repeat (first | refine blk_drewN ?_ _ | refine blk_drew ?_ | refine blk_alloc ?_ _)); refine blk_far ?_ NB446_445.out _; (with_reducible repeat (first | refine blk_drewN ?_ _ | refine blk_drew ?_ | refine blk_alloc ?_ _)); exact BK446.out) Try.underlying37 rfl (by kernel_rfl) (.tmp .nil))))) rfl ?_
   exact ⟨_, _, _, by first | rfl | (simp [errW_none, errW_some] <;> rfl) | (simp only [← hji7, ← hji8, ← hji10]; first | rfl | (simp [errW_none, errW_some] <;> rfl)) | (simp [*, errW_none, errW_some] <;> rfl), by (with_reducible repeat (first | apply Kd.R_alloc | apply Kd.R_drewN | apply Kd.R_drew)); exact Kd.R_mono (Kd.R_far (p := ⟨gb446, 0, none⟩) (far7_ (Kd.R_types (Kd.R_types HO450.out BK445.out (by decide)) BK446.out (by decide)) gb445 (fun _ hk => hk.1.2) (.slice Ao24 t448.length co24) (.slice Ao30 t451.length co30) (.int .i64 ji7) (.int .i64 ji8) (.int .i64 ji10) (.int .i64 t457) (.slice Ao31 t458.length co31)) (fun _ hk => hk.2) (.int .u64 a2_0)) (fun _ hk => hk.1.1), by (with_reducible repeat (first | apply Kd.R_alloc | apply Kd.R_drewN | apply Kd.R_drew)); exact Kd.R_mono (Kd.R_far (p := ⟨gb446, 0, none⟩) (far7_ (Kd.R_types (Kd.R_types HO453.out BK445.out (by decide)) BK446.out (by decide)) gb445 (fun _ hk => hk.1.2) (.slice Ao24 t448.length co24) (.slice Ao30 t451.length co30) (.int .i64 ji7) (.int .i64 ji8) (.int .i64 ji10) (.int .i64 t457) (.slice Ao31 t458.length co31)) (fun _ hk => hk.2) (.int .u64 a2_0)) (fun _ hk => hk.1.1), by (with_reducible repeat (first | apply Kd.R_alloc | apply Kd.R_drewN | apply Kd.R_drew)); exact Kd.R_mono (Kd.R_far (p := ⟨gb446, 0, none⟩) (far7_ (Kd.R_types (Kd.R_types HO460.out BK445.out (by decide)) BK446.out (by decide)) gb445 (fun _ hk => hk.1.2) (.slice Ao24 t448.length co24) (.slice Ao30 t451.length co30) (.int .i64 ji7) (.int .i64 ji8) (.int .i64 ji10) (.int .i64 t457) (.slice Ao31 t458.length co31)) (fun _ hk => hk.2) (.int .u64 a2_0)) (fun _ hk => trivial), by repeat (first | (with_reducible first | exact HB.out | apply below_alloc | apply pw_below_drewN | apply below_drew1 | refine below_set ?_ GE443.out | refine below_set ?_ GE444.out | refine below_set ?_ GE445.out | refine below_set ?_ GE446.out | refine below_set ?_ GE461.out) | exact HB.out)⟩
  ·rw [if_neg c11] at H
   have c11b0 : decide (0 < a1_5) = false := decide_eq_false c11
   clear c11
   replace H := Option.bind_eq_some_iff.mp H
   obtain ⟨⟨t463, t464⟩, A510, H⟩ := H
   replace H : (if t463 = true then (some (t448, t451, ji7, ji8, ji10, 64, t458, t463, t464, 0)) else (some (t448, t451, ji7, ji8, ji10, t457, t458, t463, t464, 0))) = some (r1, r2, r3, r4, r5, r6, r7, r8, r9, r10) := H
   have A51 := Aside0.mk A510
   clear A510
   by_cases c52 : t463 = true
   ·subst c52
    have H1 : (some (t448, t451, ji7, ji8, ji10, 64, t458, true, t464, 0)) = some (r1, r2, r3, r4, r5, r6, r7, r8, r9, r10) := by rw [if_pos rfl] at H; exact H
    clear H
    have H := H1
    clear H1
    simp only [Option.some.injEq, Prod.mk.injEq] at H
    obtain ⟨rfl, rfl, rfl, rfl, rfl, rfl, rfl, rfl, rfl, rfl⟩ := H
    go_enter Try.func12, Try.ntmps12
    try go_wp2_with (first | ((with_reducible refine gate_dst (N := 4) rfl ?_); refine box_event ?hg (N := 4) ?hd (cs := #[.slice A1_0 l1_0.length c1_0, .slice A1_1 l1_1.length c1_1, .int .i64 a1_2, .int .i64 a1_3, .int .i64 a1_4, .int .i64 a1_5, .slice A1_6 l1_6.length c1_6]) (t := 26) ?hr ?_; (case hd => rfl); (case hg => rfl); (case hr => first | (go_simp; done) | (go_simp; rfl)); intro gb443 hg w53 hbox hb; have BK443 := Aside0.mk (hbox); have GW443 := Aside0.mk ((dS_ hg (dL_ HB) : w.heap.size ≤ gb443)); have GE443 := Aside0.mk ((dS_ hg (dL_ HB) : w.heap.size ≤ gb443)); replace HB := Aside0.mk (below_step (dL_ HB) hb); clear hb hbox hg) | ((with_reducible refine gate_dst (N := 5) rfl ?_); refine box_event ?hg (N := 5) ?hd (cs := #[.int .u64 a2_0]) (t := 37) ?hr ?_; (case hd => rfl); (case hg => rfl); (case hr => first | (go_simp; done) | (go_simp; rfl)); intro gb444 hg w54 hbox hb; have BK444 := Aside0.mk (hbox); have GW444 := Aside0.mk ((dS_ hg (dL1_ HB GE443) : w.heap.size ≤ gb444)); have GE444 := Aside0.mk ((dS_ hg (dL1_ HB GE443) : w.heap.size ≤ gb444)); replace HB := Aside0.mk (below_step (dL1_ HB GE443) hb); have NB443_444 := Aside0.mk ((by rw [hg]; exact Nat.ne_of_lt (blk_lt (dB_ BK443)) : gb443 ≠ gb444)); have NB444_443 := Aside0.mk ((by rw [hg]; exact Nat.ne_of_gt (blk_lt (dB_ BK443)) : gb444 ≠ gb443)); replace BK443 := Aside0.mk (blk_below (g := gb443) (o := .cells #[.slice A1_0 l1_0.length c1_0, .slice A1_1 l1_1.length c1_1, .int .i64 a1_2, .int .i64 a1_3, .int .i64 a1_4, .int .i64 a1_5, .slice A1_6 l1_6.length c1_6] 26 (0, 0)) (dB_ BK443) hb); clear hb hbox hg) | ((with_reducible refine gate_dst (N := 6) rfl ?_); refine box_event ?hg (N := 6) ?hd (cs := #[.slice none 0 0, .slice none 0 0, .int .i64 0, .int .i64 0, .int .i64 0, .int .i64 0, .slice none 0 0]) (t := 26) ?hr ?_; (case hd => rfl); (case hg => rfl); (case hr => first | (go_simp; done) | (go_simp; rfl)); intro gb445 hg w55 hbox hb; have BK445 := Aside0.mk (hbox); have GW445 := Aside0.mk ((dS_ hg (dL2_ HB GE443 GE444) : w.heap.size ≤ gb445)); have GE445 := Aside0.mk ((dS_ hg (dL2_ HB GE443 GE444) : w.heap.size ≤ gb445)); replace HB := Aside0.mk (below_step (dL2_ HB GE443 GE444) hb); have NB443_445 := Aside0.mk ((by rw [hg]; exact Nat.ne_of_lt (blk_lt (dB_ BK443)) : gb443 ≠ gb445)); have NB445_443 := Aside0.mk ((by rw [hg]; exact Nat.ne_of_gt (blk_lt (dB_ BK443)) : gb445 ≠ gb443)); replace BK443 := Aside0.mk (blk_below (g := gb443) (o := .cells #[.slice A1_0 l1_0.length c1_0, .slice A1_1 l1_1.length c1_1, .int .i64 a1_2, .int .i64 a1_3, .int .i64 a1_4, .int .i64 a1_5, .slice A1_6 l1_6.length c1_6] 26 (0, 0)) (dB_ BK443) hb); have NB444_445 := Aside0.mk ((by rw [hg]; exact Nat.ne_of_lt (blk_lt (dB_ BK444)) : gb444 ≠ gb445)); have NB445_444 := Aside0.mk ((by rw [hg]; exact Nat.ne_of_gt (blk_lt (dB_ BK444)) : gb445 ≠ gb444)); replace BK444 := Aside0.mk (blk_below (g := gb444) (o := .cells #[.int .u64 a2_0] 37 (0, 0)) (dB_ BK444) hb); clear hb hbox hg) | ((with_reducible refine gate_dst (N := 8) rfl ?_); refine box_event ?hg (N := 8) ?hd (cs := #[.int .u64 0]) (t := 37) ?hr ?_; (case hd => rfl); (case hg => rfl); (case hr => first | (go_simp; done) | (go_simp; rfl)); intro gb446 hg w56 hbox hb; have BK446 := Aside0.mk (hbox); have GW446 := Aside0.mk ((dS_ hg (dL3_ HB GE443 GE444 GE445) : w.heap.size ≤ gb446)); have GE446 := Aside0.mk ((dS_ hg (dL3_ HB GE443 GE444 GE445) : w.heap.size ≤ gb446)); replace HB := Aside0.mk (below_step (dL3_ HB GE443 GE444 GE445) hb); have NB443_446 := Aside0.mk ((by rw [hg]; exact Nat.ne_of_lt (blk_lt (dB_ BK443)) : gb443 ≠ gb446)); have NB446_443 := Aside0.mk ((by rw [hg]; exact Nat.ne_of_gt (blk_lt (dB_ BK443)) : gb446 ≠ gb443)); replace BK443 := Aside0.mk (blk_below (g := gb443) (o := .cells #[.slice A1_0 l1_0.length c1_0, .slice A1_1 l1_1.length c1_1, .int .i64 a1_2, .int .i64 a1_3, .int .i64 a1_4, .int .i64 a1_5, .slice A1_6 l1_6.length c1_6] 26 (0, 0)) (dB_ BK443) hb); have NB444_446 := Aside0.mk ((by rw [hg]; exact Nat.ne_of_lt (blk_lt (dB_ BK444)) : gb444 ≠ gb446)); have NB446_444 := Aside0.mk ((by rw [hg]; exact Nat.ne_of_gt (blk_lt (dB_ BK444)) : gb446 ≠ gb444)); replace BK444 := Aside0.mk (blk_below (g := gb444) (o := .cells #[.int .u64 a2_0] 37 (0, 0)) (dB_ BK444) hb); have NB445_446 := Aside0.mk ((by rw [hg]; exact Nat.ne_of_lt (blk_lt (dB_ BK445)) : gb445 ≠ gb446)); have NB446_445 := Aside0.mk ((by rw [hg]; exact Nat.ne_of_gt (blk_lt (dB_ BK445)) : gb446 ≠ gb445)); replace BK445 := Aside0.mk (blk_below (g := gb445) (o := .cells #[.slice none 0 0, .slice none 0 0, .int .i64 0, .int .i64 0, .int .i64 0, .int .i64 0, .slice none 0 0] 26 (0, 0)) (dB_ BK445) hb); clear hb hbox hg; have hnb57 := NB443_444.out; have hnc57 := NB444_443.out; have hnb58 := NB443_445.out; have hnc58 := NB445_443.out; have hnb59 := NB443_446.out; have hnc59 := NB446_443.out; obtain ⟨hcz60_0, hcz60_1, hcz60_2, hcz60_3, hcz60_4, hcz60_5, hcz60_6, hfz60_0, hfz60_1, hfz60_2, hfz60_3, hfz60_4, hfz60_5, hfz60_6⟩ := cs7_ BK443.out) | ((with_reducible refine gate_callee (f := 11) rfl ?_); refine goesL_ (some 15) rfl rfl Try.func11 (by kernel_rfl) rfl #[.slice A0 l0.length c0, .agg #[.slice A1_0 l1_0.length c1_0, .slice A1_1 l1_1.length c1_1, .int .i64 a1_2, .int .i64 a1_3, .int .i64 a1_4, .int .i64 a1_5, .slice A1_6 l1_6.length c1_6]] rfl tA_ ?_; (with_reducible refine (fleet_Validate.calls k _ _ l0 _ _ l1_0 _ _ l1_1 a1_2 a1_3 a1_4 a1_5 _ _ l1_6 t447 _ ?side1 ?side2 ?side3 ?side4 ?side5 ?side6 ?side7 ?side8 A4.out).mono ?_); (case side1 => exact dC_ HR0 HB); (case side2 => exact HC0.out); (case side3 => exact dC_ HR1_0 HB); (case side4 => exact HC1_0.out); (case side5 => exact dC_ HR1_1 HB); (case side6 => exact HC1_1.out); (case side7 => exact dC_ HR1_6 HB); (case side8 => exact HC1_6.out); rintro e w61 ⟨rfl, hb⟩; refine ⟨_, rfl, ?_⟩; replace BK443 := Aside0.mk (blk_below (g := gb443) (o := .cells #[.slice A1_0 l1_0.length c1_0, .slice A1_1 l1_1.length c1_1, .int .i64 a1_2, .int .i64 a1_3, .int .i64 a1_4, .int .i64 a1_5, .slice A1_6 l1_6.length c1_6] 26 (0, 0)) (dB_ BK443) hb); replace BK444 := Aside0.mk (blk_below (g := gb444) (o := .cells #[.int .u64 a2_0] 37 (0, 0)) (dB_ BK444) hb); replace BK445 := Aside0.mk (blk_below (g := gb445) (o := .cells #[.slice none 0 0, .slice none 0 0, .int .i64 0, .int .i64 0, .int .i64 0, .int .i64 0, .slice none 0 0] 26 (0, 0)) (dB_ BK445) hb); replace BK446 := Aside0.mk (blk_below (g := gb446) (o := .cells #[.int .u64 0] 37 (0, 0)) (dB_ BK446) hb); replace HB := Aside0.mk (below_step (dL4_ HB GE443 GE444 GE445 GE446) hb); obtain ⟨hcz62_0, hcz62_1, hcz62_2, hcz62_3, hcz62_4, hcz62_5, hcz62_6, hfz62_0, hfz62_1, hfz62_2, hfz62_3, hfz62_4, hfz62_5, hfz62_6⟩ := cs7_ BK443.out) | ((with_reducible refine gate_callee (f := 19) rfl ?_); refine goesL_ (some 22) rfl rfl Try.func19 (by kernel_rfl) rfl #[.agg #[.slice A1_0 l1_0.length c1_0, .slice A1_1 l1_1.length c1_1, .int .i64 a1_2, .int .i64 a1_3, .int .i64 a1_4, .int .i64 a1_5, .slice A1_6 l1_6.length c1_6]] rfl tA_ ?_; (with_reducible refine (fleet_clone.calls _ _ l1_0 _ _ l1_1 a1_2 a1_3 a1_4 a1_5 _ _ l1_6 t448 t451 t454 t455 t456 t457 t458 _ ?side1 ?side2 ?side3 ?side4 ?side5 ?side6 A6.out).mono ?_); (case side1 => exact dC_ HR1_0 HB); (case side2 => exact HC1_0.out); (case side3 => exact dC_ HR1_1 HB); (case side4 => exact HC1_1.out); (case side5 => exact dC_ HR1_6 HB); (case side6 => exact HC1_6.out); rintro e w63 ⟨v449, v452, v459, rfl, ho0, ho1, ho2, hb⟩; refine ⟨_, rfl, ?_⟩; have HO450 := Aside0.mk (Kd.R_lower ho0 (below_size (dL4_ HB GE443 GE444 GE445 GE446))); have HO453 := Aside0.mk (Kd.R_lower ho1 (below_size (dL4_ HB GE443 GE444 GE445 GE446))); have HO460 := Aside0.mk (Kd.R_lower ho2 (below_size (dL4_ HB GE443 GE444 GE445 GE446))); replace BK443 := Aside0.mk (blk_below (g := gb443) (o := .cells #[.slice A1_0 l1_0.length c1_0, .slice A1_1 l1_1.length c1_1, .int .i64 a1_2, .int .i64 a1_3, .int .i64 a1_4, .int .i64 a1_5, .slice A1_6 l1_6.length c1_6] 26 (0, 0)) (dB_ BK443) hb); replace BK444 := Aside0.mk (blk_below (g := gb444) (o := .cells #[.int .u64 a2_0] 37 (0, 0)) (dB_ BK444) hb); replace BK445 := Aside0.mk (blk_below (g := gb445) (o := .cells #[.slice none 0 0, .slice none 0 0, .int .i64 0, .int .i64 0, .int .i64 0, .int .i64 0, .slice none 0 0] 26 (0, 0)) (dB_ BK445) hb); replace BK446 := Aside0.mk (blk_below (g := gb446) (o := .cells #[.int .u64 0] 37 (0, 0)) (dB_ BK446) hb); replace HB := Aside0.mk (below_step (dL4_ HB GE443 GE444 GE445 GE446) hb)) | ((with_reducible refine gate_dst (N := 11) rfl ?_); refine box_event ?hg (N := 11) ?hd (cs := #[.slice none 0 0, .slice none 0 0, .int .i64 0, .int .i64 0, .int .i64 0, .int .i64 0, .slice none 0 0]) (t := 26) ?hr ?_; (case hd => rfl); (case hg => rfl); (case hr => first | (go_simp; done) | (go_simp; rfl)); intro gb461 hg w64 hbox hb; replace HO450 := Aside0.mk (Kd.R_below (dR_ HO450) hb); replace HO453 := Aside0.mk (Kd.R_below (dR_ HO453) hb); replace HO460 := Aside0.mk (Kd.R_below (dR_ HO460) hb); have BK461 := Aside0.mk (hbox); have GW461 := Aside0.mk ((dS_ hg (dL4_ HB GE443 GE444 GE445 GE446) : w.heap.size ≤ gb461)); have GE461 := Aside0.mk ((dS_ hg (dL4_ HB GE443 GE444 GE445 GE446) : w.heap.size ≤ gb461)); replace HB := Aside0.mk (below_step (dL4_ HB GE443 GE444 GE445 GE446) hb); have NB443_461 := Aside0.mk ((by rw [hg]; exact Nat.ne_of_lt (blk_lt (dB_ BK443)) : gb443 ≠ gb461)); have NB461_443 := Aside0.mk ((by rw [hg]; exact Nat.ne_of_gt (blk_lt (dB_ BK443)) : gb461 ≠ gb443)); replace BK443 := Aside0.mk (blk_below (g := gb443) (o := .cells #[.slice A1_0 l1_0.length c1_0, .slice A1_1 l1_1.length c1_1, .int .i64 a1_2, .int .i64 a1_3, .int .i64 a1_4, .int .i64 a1_5, .slice A1_6 l1_6.length c1_6] 26 (0, 0)) (dB_ BK443) hb); have NB444_461 := Aside0.mk ((by rw [hg]; exact Nat.ne_of_lt (blk_lt (dB_ BK444)) : gb444 ≠ gb461)); have NB461_444 := Aside0.mk ((by rw [hg]; exact Nat.ne_of_gt (blk_lt (dB_ BK444)) : gb461 ≠ gb444)); replace BK444 := Aside0.mk (blk_below (g := gb444) (o := .cells #[.int .u64 a2_0] 37 (0, 0)) (dB_ BK444) hb); have NB445_461 := Aside0.mk ((by rw [hg]; exact Nat.ne_of_lt (blk_lt (dB_ BK445)) : gb445 ≠ gb461)); have NB461_445 := Aside0.mk ((by rw [hg]; exact Nat.ne_of_gt (blk_lt (dB_ BK445)) : gb461 ≠ gb445)); replace BK445 := Aside0.mk (blk_below (g := gb445) (o := .cells #[.slice none 0 0, .slice none 0 0, .int .i64 0, .int .i64 0, .int .i64 0, .int .i64 0, .slice none 0 0] 26 (0, 0)) (dB_ BK445) hb); have NB446_461 := Aside0.mk ((by rw [hg]; exact Nat.ne_of_lt (blk_lt (dB_ BK446)) : gb446 ≠ gb461)); have NB461_446 := Aside0.mk ((by rw [hg]; exact Nat.ne_of_gt (blk_lt (dB_ BK446)) : gb461 ≠ gb446)); replace BK446 := Aside0.mk (blk_below (g := gb446) (o := .cells #[.int .u64 0] 37 (0, 0)) (dB_ BK446) hb); clear hb hbox hg; obtain ⟨Ao65, co65, eo65⟩ := Kd.R_slice HO450.out; subst eo65; have hnb66 := NB461_443.out; have hnc66 := NB443_461.out; have hnb67 := NB461_444.out; have hnc67 := NB444_461.out; have hnb68 := NB461_445.out; have hnc68 := NB445_461.out; have hnb69 := NB461_446.out; have hnc69 := NB446_461.out; obtain ⟨hcz70_0, hcz70_1, hcz70_2, hcz70_3, hcz70_4, hcz70_5, hcz70_6, hfz70_0, hfz70_1, hfz70_2, hfz70_3, hfz70_4, hfz70_5, hfz70_6⟩ := cs7_ BK461.out; obtain ⟨Ao71, co71, eo71⟩ := Kd.R_slice HO453.out; subst eo71; obtain ⟨Ao72, co72, eo72⟩ := Kd.R_slice HO460.out; subst eo72))
    have n0_ : Aside0 (Kd.R (Kd.int .i64) 3 (((((((w64.setCell ⟨gb461, 0, none⟩ (.slice Ao65 t448.length co65)).setCell ⟨gb461, 1, none⟩ (.slice Ao71 t451.length co71)).setCell ⟨gb461, 2, none⟩ (.int .i64 t454)).setCell ⟨gb461, 3, none⟩ (.int .i64 t455)).setCell ⟨gb461, 4, none⟩ (.int .i64 t456)).setCell ⟨gb461, 5, none⟩ (.int .i64 t457)).setCell ⟨gb461, 6, none⟩ (.slice Ao72 t458.length co72)) w.heap.size (fun k_ => some k_ ≠ (.slice Ao71 t451.length co71 : Value).ownBlock) (.slice Ao65 t448.length co65) t448) := ⟨by (with_reducible repeat (first | apply Kd.R_alloc | apply Kd.R_drewN | apply Kd.R_drew)); exact Kd.R_mono (far7_ (Kd.R_types HO450.out BK461.out (by decide)) gb461 (fun _ hk => hk.2) (.slice Ao65 t448.length co65) (.slice Ao71 t451.length co71) (.int .i64 t454) (.int .i64 t455) (.int .i64 t456) (.int .i64 t457) (.slice Ao72 t458.length co72)) (fun _ hk => hk.1)⟩
    have n1_ : Aside0 (Kd.R (Kd.int .i64) 3 (((((((w64.setCell ⟨gb461, 0, none⟩ (.slice Ao65 t448.length co65)).setCell ⟨gb461, 1, none⟩ (.slice Ao71 t451.length co71)).setCell ⟨gb461, 2, none⟩ (.int .i64 t454)).setCell ⟨gb461, 3, none⟩ (.int .i64 t455)).setCell ⟨gb461, 4, none⟩ (.int .i64 t456)).setCell ⟨gb461, 5, none⟩ (.int .i64 t457)).setCell ⟨gb461, 6, none⟩ (.slice Ao72 t458.length co72)) w.heap.size (fun k_ => some k_ ≠ (.slice Ao65 t448.length co65 : Value).ownBlock) (.slice Ao71 t451.length co71) t451) := ⟨by (with_reducible repeat (first | apply Kd.R_alloc | apply Kd.R_drewN | apply Kd.R_drew)); exact Kd.R_mono (far7_ (Kd.R_types HO453.out BK461.out (by decide)) gb461 (fun _ hk => hk.2) (.slice Ao65 t448.length co65) (.slice Ao71 t451.length co71) (.int .i64 t454) (.int .i64 t455) (.int .i64 t456) (.int .i64 t457) (.slice Ao72 t458.length co72)) (fun _ hk => hk.1)⟩
    have n2_ : Aside0 (Kd.R k49 49 (((((((w64.setCell ⟨gb461, 0, none⟩ (.slice Ao65 t448.length co65)).setCell ⟨gb461, 1, none⟩ (.slice Ao71 t451.length co71)).setCell ⟨gb461, 2, none⟩ (.int .i64 t454)).setCell ⟨gb461, 3, none⟩ (.int .i64 t455)).setCell ⟨gb461, 4, none⟩ (.int .i64 t456)).setCell ⟨gb461, 5, none⟩ (.int .i64 t457)).setCell ⟨gb461, 6, none⟩ (.slice Ao72 t458.length co72)) w.heap.size (fun _ => True) (.slice Ao72 t458.length co72) t458) := ⟨by (with_reducible repeat (first | apply Kd.R_alloc | apply Kd.R_drewN | apply Kd.R_drew)); exact Kd.R_mono (far7_ (Kd.R_types HO460.out BK461.out (by decide)) gb461 (fun _ hk => hk.2) (.slice Ao65 t448.length co65) (.slice Ao71 t451.length co71) (.int .i64 t454) (.int .i64 t455) (.int .i64 t456) (.int .i64 t457) (.slice Ao72 t458.length co72)) (fun _ hk => trivial)⟩
    have n3_ : Aside0 ((((((((w64.setCell ⟨gb461, 0, none⟩ (.slice Ao65 t448.length co65)).setCell ⟨gb461, 1, none⟩ (.slice Ao71 t451.length co71)).setCell ⟨gb461, 2, none⟩ (.int .i64 t454)).setCell ⟨gb461, 3, none⟩ (.int .i64 t455)).setCell ⟨gb461, 4, none⟩ (.int .i64 t456)).setCell ⟨gb461, 5, none⟩ (.int .i64 t457)).setCell ⟨gb461, 6, none⟩ (.slice Ao72 t458.length co72)).heap[gb443]? = some (.cells #[.slice A1_0 l1_0.length c1_0, .slice A1_1 l1_1.length c1_1, .int .i64 a1_2, .int .i64 a1_3, .int .i64 a1_4, .int .i64 a1_5, .slice A1_6 l1_6.length c1_6] 26 (0, 0))) := ⟨dF7_ BK443 NB443_461⟩
    have n4_ : Aside0 ((((((((w64.setCell ⟨gb461, 0, none⟩ (.slice Ao65 t448.length co65)).setCell ⟨gb461, 1, none⟩ (.slice Ao71 t451.length co71)).setCell ⟨gb461, 2, none⟩ (.int .i64 t454)).setCell ⟨gb461, 3, none⟩ (.int .i64 t455)).setCell ⟨gb461, 4, none⟩ (.int .i64 t456)).setCell ⟨gb461, 5, none⟩ (.int .i64 t457)).setCell ⟨gb461, 6, none⟩ (.slice Ao72 t458.length co72)).heap[gb444]? = some (.cells #[.int .u64 a2_0] 37 (0, 0))) := ⟨dF7_ BK444 NB444_461⟩
    have n5_ : Aside0 ((((((((w64.setCell ⟨gb461, 0, none⟩ (.slice Ao65 t448.length co65)).setCell ⟨gb461, 1, none⟩ (.slice Ao71 t451.length co71)).setCell ⟨gb461, 2, none⟩ (.int .i64 t454)).setCell ⟨gb461, 3, none⟩ (.int .i64 t455)).setCell ⟨gb461, 4, none⟩ (.int .i64 t456)).setCell ⟨gb461, 5, none⟩ (.int .i64 t457)).setCell ⟨gb461, 6, none⟩ (.slice Ao72 t458.length co72)).heap[gb445]? = some (.cells #[.slice none 0 0, .slice none 0 0, .int .i64 0, .int .i64 0, .int .i64 0, .int .i64 0, .slice none 0 0] 26 (0, 0))) := ⟨dF7_ BK445 NB445_461⟩
    have n6_ : Aside0 ((((((((w64.setCell ⟨gb461, 0, none⟩ (.slice Ao65 t448.length co65)).setCell ⟨gb461, 1, none⟩ (.slice Ao71 t451.length co71)).setCell ⟨gb461, 2, none⟩ (.int .i64 t454)).setCell ⟨gb461, 3, none⟩ (.int .i64 t455)).setCell ⟨gb461, 4, none⟩ (.int .i64 t456)).setCell ⟨gb461, 5, none⟩ (.int .i64 t457)).setCell ⟨gb461, 6, none⟩ (.slice Ao72 t458.length co72)).heap[gb446]? = some (.cells #[.int .u64 0] 37 (0, 0))) := ⟨dF7_ BK446 NB446_461⟩
    have n7_ : Aside0 ((((((((w64.setCell ⟨gb461, 0, none⟩ (.slice Ao65 t448.length co65)).setCell ⟨gb461, 1, none⟩ (.slice Ao71 t451.length co71)).setCell ⟨gb461, 2, none⟩ (.int .i64 t454)).setCell ⟨gb461, 3, none⟩ (.int .i64 t455)).setCell ⟨gb461, 4, none⟩ (.int .i64 t456)).setCell ⟨gb461, 5, none⟩ (.int .i64 t457)).setCell ⟨gb461, 6, none⟩ (.slice Ao72 t458.length co72)).heap[gb461]? = some (.cells #[.slice Ao65 t448.length co65, .slice Ao71 t451.length co71, .int .i64 t454, .int .i64 t455, .int .i64 t456, .int .i64 t457, .slice Ao72 t458.length co72] 26 (0, 0))) := ⟨dP7_ BK461⟩
    have n8_ : Aside0 (Below w.heap.size w (((((((w64.setCell ⟨gb461, 0, none⟩ (.slice Ao65 t448.length co65)).setCell ⟨gb461, 1, none⟩ (.slice Ao71 t451.length co71)).setCell ⟨gb461, 2, none⟩ (.int .i64 t454)).setCell ⟨gb461, 3, none⟩ (.int .i64 t455)).setCell ⟨gb461, 4, none⟩ (.int .i64 t456)).setCell ⟨gb461, 5, none⟩ (.int .i64 t457)).setCell ⟨gb461, 6, none⟩ (.slice Ao72 t458.length co72))) := ⟨by repeat (first | (with_reducible first | exact HB.out | apply below_alloc | apply pw_below_drewN | apply below_drew1 | refine below_set ?_ GE443.out | refine below_set ?_ GE444.out | refine below_set ?_ GE445.out | refine below_set ?_ GE446.out | refine below_set ?_ GE461.out) | exact HB.out)⟩
    (try clear HO450)
    (try clear HO453)
    (try clear HO460)
    (try clear BK443)
    (try clear BK444)
    (try clear BK445)
    (try clear BK446)
    (try clear BK461)
    (try clear HB)
    generalize (((((((w64.setCell ⟨gb461, 0, none⟩ (.slice Ao65 t448.length co65)).setCell ⟨gb461, 1, none⟩ (.slice Ao71 t451.length co71)).setCell ⟨gb461, 2, none⟩ (.int .i64 t454)).setCell ⟨gb461, 3, none⟩ (.int .i64 t455)).setCell ⟨gb461, 4, none⟩ (.int .i64 t456)).setCell ⟨gb461, 5, none⟩ (.int .i64 t457)).setCell ⟨gb461, 6, none⟩ (.slice Ao72 t458.length co72)) = w73 at n0_ n1_ n2_ n3_ n4_ n5_ n6_ n7_ n8_ ⊢
    have HO450 := n0_
    have HO453 := n1_
    have HO460 := n2_
    have BK443 := n3_
    have BK444 := n4_
    have BK445 := n5_
    have BK446 := n6_
    have BK461 := n7_
    have HB := n8_
    clear n0_ n1_ n2_ n3_ n4_ n5_ n6_ n7_ n8_
    replace HO450 := Aside0.mk (Kd.R_drew HO450.out)
    replace HO453 := Aside0.mk (Kd.R_drew HO453.out)
    replace HO460 := Aside0.mk (Kd.R_drew HO460.out)
    replace BK443 := Aside0.mk (blk_drew BK443.out)
    replace BK444 := Aside0.mk (blk_drew BK444.out)
    replace BK445 := Aside0.mk (blk_drew BK445.out)
    replace BK446 := Aside0.mk (blk_drew BK446.out)
    replace BK461 := Aside0.mk (blk_drew BK461.out)
    replace HB := Aside0.mk (below_drew1 HB.out)
    refine start_ (n := 12) (S := fun w' => w'.cell? ⟨gb443, 0, none⟩ = some (.slice A1_0 l1_0.length c1_0) ∧ w'.cell? ⟨gb443, 1, none⟩ = some (.slice A1_1 l1_1.length c1_1) ∧ w'.cell? ⟨gb443, 2, none⟩ = some (.int .i64 a1_2) ∧ w'.cell? ⟨gb443, 3, none⟩ = some (.int .i64 a1_3) ∧ w'.cell? ⟨gb443, 4, none⟩ = some (.int .i64 a1_4) ∧ w'.cell? ⟨gb443, 5, none⟩ = some (.int .i64 a1_5) ∧ w'.cell? ⟨gb443, 6, none⟩ = some (.slice A1_6 l1_6.length c1_6)) (ds := []) #[false, false, false, false, false, false, false, false, false, false, false, false] (by kernel_rfl) rfl rfl ⟨(blk_cell BK443.out 0).trans rfl, (blk_cell BK443.out 1).trans rfl, (blk_cell BK443.out 2).trans rfl, (blk_cell BK443.out 3).trans rfl, (blk_cell BK443.out 4).trans rfl, (blk_cell BK443.out 5).trans rfl, (blk_cell BK443.out 6).trans rfl⟩ (fun hHeld => ?_); refine with_tabW fleet_Day.tab5 fleet_Day.bits5 (fun HT_ HW_ => ?_)
    generalize w73.drew = w74 at HO450 HO453 HO460 BK443 BK444 BK445 BK446 BK461 HB hHeld ⊢
    refine pure_ (i := 0) (N := some 23) (v := ?_) (a' := ?_) (bA 1 12) rfl rfl (any_of HT_.out (by kernel_rfl)) (fun _ _ _ h => h) (Or.inl ⟨by rfl, ?_⟩) ?_ ?_; rotate_left; (intro w'; go_simp; with_reducible rfl); rotate_left; (simp only [Act.put, sI_, s0_, sS_, i64_w, i32_w]; rfl)
    refine pure_ (i := 4) (N := some 27) (v := ?_) (a' := ?_) #[true, false, false, false, true, false, false, false, false, false, false, false] rfl rfl (any_of HT_.out (by kernel_rfl)) (fun _ _ _ h => h) (Or.inl ⟨by rfl, ?_⟩) ?_ ?_; rotate_left; (intro w'; go_simp; with_reducible rfl); rotate_left; (simp only [Act.put, sI_, s0_, sS_, i64_w, i32_w]; rfl)
    refine take_ (i := 1) (N := some 24) (v := ?_) (a' := ?_) #[true, true, false, false, true, false, false, false, false, false, false, false] rfl rfl (take_ofW HT_.out HW_.out (by kernel_rfl)) (fun _ _ _ h => h) (Or.inl ⟨by rfl, ?_⟩) hHeld ?_ ?_; rotate_left; (rintro w' ⟨s0, s1, s2, s3, s4, s5, s6⟩; go_simp; with_reducible rfl); rotate_left; (simp only [Act.put, sI_, s0_, sS_, i64_w, i32_w]; rfl)
    refine pure_ (i := 2) (N := some 25) (v := ?_) (a' := ?_) #[true, true, true, false, true, false, false, false, false, false, false, false] rfl rfl (any_of HT_.out (by kernel_rfl)) (fun _ _ _ h => h) (Or.inl ⟨by rfl, ?_⟩) ?_ ?_; rotate_left; (intro w'; go_simp; with_reducible rfl); rotate_left; (simp only [Act.put, sI_, s0_, sS_, i64_w, i32_w]; rfl)
    refine pure_ (i := 3) (N := some 26) (v := ?_) (a' := ?_) (bA 5 12) rfl rfl (any_of HT_.out (by kernel_rfl)) (fun _ _ _ h => h) (Or.inl ⟨by rfl, ?_⟩) ?_ ?_; rotate_left; (intro w'; go_simp; with_reducible rfl); rotate_left; (simp only [Act.put, sI_, s0_, sS_, i64_w, i32_w]; rfl)
    refine pure_ (i := 8) (N := some 31) (v := ?_) (a' := ?_) #[true, true, true, true, true, false, false, false, true, false, false, false] rfl rfl (any_of HT_.out (by kernel_rfl)) (fun _ _ _ h => h) (Or.inl ⟨by rfl, ?_⟩) ?_ ?_; rotate_left; (intro w'; go_simp; with_reducible rfl); rotate_left; (simp only [Act.put, sI_, s0_, sS_, i64_w, i32_w]; rfl)
    refine take_ (i := 5) (N := some 28) (v := ?_) (a' := ?_) #[true, true, true, true, true, true, false, false, true, false, false, false] rfl rfl (take_ofW HT_.out HW_.out (by kernel_rfl)) (fun _ _ _ h => h) (Or.inl ⟨by rfl, ?_⟩) hHeld ?_ ?_; rotate_left; (rintro w' ⟨s0, s1, s2, s3, s4, s5, s6⟩; go_simp; with_reducible rfl); rotate_left; (simp only [Act.put, sI_, s0_, sS_, i64_w, i32_w]; rfl)
    refine pure_ (i := 6) (N := some 29) (v := ?_) (a' := ?_) #[true, true, true, true, true, true, true, false, true, false, false, false] rfl rfl (any_of HT_.out (by kernel_rfl)) (fun _ _ _ h => h) (Or.inl ⟨by rfl, ?_⟩) ?_ ?_; rotate_left; (intro w'; go_simp; with_reducible rfl); rotate_left; (simp only [Act.put, sI_, s0_, sS_, i64_w, i32_w]; rfl)
    refine pure_ (i := 7) (N := some 30) (v := ?_) (a' := ?_) (bA 9 12) rfl rfl (any_of HT_.out (by kernel_rfl)) (fun _ _ _ h => h) (Or.inl ⟨by rfl, ?_⟩) ?_ ?_; rotate_left; (intro w'; go_simp; with_reducible rfl); rotate_left; (simp only [Act.put, sI_, s0_, sS_, i64_w, i32_w]; rfl)
    refine one_ (i := 9) (N := none) (bA 10 12) rfl rfl (one_of HT_.out (by kernel_rfl)) (by decide) (fun K hK => ?_)
    have hs75 : w74.cell? ⟨gb461, 2, none⟩ = some (.int .i64 t454) := (blk_cell BK461.out 2).trans rfl
    have hfs75 := blk_frozen BK461.out 2
    have hns75_0 := NB443_461.out
    have hns75_1 := NB444_461.out
    have hns75_2 := NB445_461.out
    have hns75_3 := NB446_461.out
    have hms75_0 := NB461_443.out
    have hms75_1 := NB461_444.out
    have hms75_2 := NB461_445.out
    have hms75_3 := NB461_446.out
    refine skip_ (w1 := ?_) (by rfl) rfl ?_ ?_
    rotate_left
    ·go_simp
     rfl
    refine hK.out _ _ ⟨((cell_far (p := ⟨gb461, _, none⟩) NB443_461.out _).trans (hHeld.1)), ((cell_far (p := ⟨gb461, _, none⟩) NB443_461.out _).trans (hHeld.2.1)), ((cell_far (p := ⟨gb461, _, none⟩) NB443_461.out _).trans (hHeld.2.2.1)), ((cell_far (p := ⟨gb461, _, none⟩) NB443_461.out _).trans (hHeld.2.2.2.1)), ((cell_far (p := ⟨gb461, _, none⟩) NB443_461.out _).trans (hHeld.2.2.2.2.1)), ((cell_far (p := ⟨gb461, _, none⟩) NB443_461.out _).trans (hHeld.2.2.2.2.2.1)), ((cell_far (p := ⟨gb461, _, none⟩) NB443_461.out _).trans (hHeld.2.2.2.2.2.2))⟩ (fun hHeld => ?_)
    clear hK K
    refine pure_ (i := 10) (N := some 32) (v := ?_) (a' := ?_) (bA 11 12) rfl rfl (any_of HT_.out (by kernel_rfl)) (fun _ _ _ h => h) (Or.inl ⟨by rfl, ?_⟩) ?_ ?_; rotate_left; (intro w'; go_simp; with_reducible rfl); rotate_left; (simp only [Act.put, sI_, s0_, sS_, i64_w, i32_w]; rfl)
    refine one_ (i := 11) (N := none) (bA 12 12) rfl rfl (one_of HT_.out (by kernel_rfl)) (by decide) (fun K hK => ?_)
    have hs76 : w74.cell? ⟨gb461, 3, none⟩ = some (.int .i64 t455) := (blk_cell BK461.out 3).trans rfl
    have hfs76 := blk_frozen BK461.out 3
    have hns76_0 := NB443_461.out
    have hns76_1 := NB444_461.out
    have hns76_2 := NB445_461.out
    have hns76_3 := NB446_461.out
    have hms76_0 := NB461_443.out
    have hms76_1 := NB461_444.out
    have hms76_2 := NB461_445.out
    have hms76_3 := NB461_446.out
    refine skip_ (w1 := ?_) (by rfl) rfl ?_ ?_
    rotate_left
    ·go_simp
     rfl
    refine hK.out _ _ ⟨((cell_far (p := ⟨gb461, _, none⟩) NB443_461.out _).trans (hHeld.1)), ((cell_far (p := ⟨gb461, _, none⟩) NB443_461.out _).trans (hHeld.2.1)), ((cell_far (p := ⟨gb461, _, none⟩) NB443_461.out _).trans (hHeld.2.2.1)), ((cell_far (p := ⟨gb461, _, none⟩) NB443_461.out _).trans (hHeld.2.2.2.1)), ((cell_far (p := ⟨gb461, _, none⟩) NB443_461.out _).trans (hHeld.2.2.2.2.1)), ((cell_far (p := ⟨gb461, _, none⟩) NB443_461.out _).trans (hHeld.2.2.2.2.2.1)), ((cell_far (p := ⟨gb461, _, none⟩) NB443_461.out _).trans (hHeld.2.2.2.2.2.2))⟩ (fun hHeld => ?_)
    clear hK K
    refine done_ (done_of HT_.out (by kernel_rfl)) ?_
    try go_wp2
    have n0_ : Aside0 (Kd.R (Kd.int .i64) 3 ((w74.setCell ⟨gb461, 2, none⟩ (.int .i64 ji7)).setCell ⟨gb461, 3, none⟩ (.int .i64 ji8)) w.heap.size (fun k_ => some k_ ≠ (.slice Ao71 t451.length co71 : Value).ownBlock) (.slice Ao65 t448.length co65) t448) := ⟨by (with_reducible repeat (first | apply Kd.R_alloc | apply Kd.R_drewN | apply Kd.R_drew)); exact Kd.R_mono (Kd.R_far (p := ⟨gb461, 3, none⟩) (Kd.R_far (p := ⟨gb461, 2, none⟩) (Kd.R_types HO450.out BK461.out (by decide)) (fun _ hk => hk.2) (.int .i64 ji7)) (fun _ hk => hk.2) (.int .i64 ji8)) (fun _ hk => hk.1)⟩
    have n1_ : Aside0 (Kd.R (Kd.int .i64) 3 ((w74.setCell ⟨gb461, 2, none⟩ (.int .i64 ji7)).setCell ⟨gb461, 3, none⟩ (.int .i64 ji8)) w.heap.size (fun k_ => some k_ ≠ (.slice Ao65 t448.length co65 : Value).ownBlock) (.slice Ao71 t451.length co71) t451) := ⟨by (with_reducible repeat (first | apply Kd.R_alloc | apply Kd.R_drewN | apply Kd.R_drew)); exact Kd.R_mono (Kd.R_far (p := ⟨gb461, 3, none⟩) (Kd.R_far (p := ⟨gb461, 2, none⟩) (Kd.R_types HO453.out BK461.out (by decide)) (fun _ hk => hk.2) (.int .i64 ji7)) (fun _ hk => hk.2) (.int .i64 ji8)) (fun _ hk => hk.1)⟩
    have n2_ : Aside0 (Kd.R k49 49 ((w74.setCell ⟨gb461, 2, none⟩ (.int .i64 ji7)).setCell ⟨gb461, 3, none⟩ (.int .i64 ji8)) w.heap.size (fun _ => True) (.slice Ao72 t458.length co72) t458) := ⟨by (with_reducible repeat (first | apply Kd.R_alloc | apply Kd.R_drewN | apply Kd.R_drew)); exact Kd.R_mono (Kd.R_far (p := ⟨gb461, 3, none⟩) (Kd.R_far (p := ⟨gb461, 2, none⟩) (Kd.R_types HO460.out BK461.out (by decide)) (fun _ hk => hk.2) (.int .i64 ji7)) (fun _ hk => hk.2) (.int .i64 ji8)) (fun _ hk => trivial)⟩
    have n3_ : Aside0 (((w74.setCell ⟨gb461, 2, none⟩ (.int .i64 ji7)).setCell ⟨gb461, 3, none⟩ (.int .i64 ji8)).heap[gb443]? = some (.cells #[.slice A1_0 l1_0.length c1_0, .slice A1_1 l1_1.length c1_1, .int .i64 a1_2, .int .i64 a1_3, .int .i64 a1_4, .int .i64 a1_5, .slice A1_6 l1_6.length c1_6] 26 (0, 0))) := ⟨by (with_reducible repeat (first | refine blk_drewN ?_ _ | refine blk_drew ?_ | refine blk_alloc ?_ _)); refine blk_far ?_ NB443_461.out _; (with_reducible repeat (first | refine blk_drewN ?_ _ | refine blk_drew ?_ | refine blk_alloc ?_ _)); refine blk_far ?_ NB443_461.out _; (with_reducible repeat (first | refine blk_drewN ?_ _ | refine blk_drew ?_ | refine blk_alloc ?_ _)); exact BK443.out⟩
    have n4_ : Aside0 (((w74.setCell ⟨gb461, 2, none⟩ (.int .i64 ji7)).setCell ⟨gb461, 3, none⟩ (.int .i64 ji8)).heap[gb444]? = some (.cells #[.int .u64 a2_0] 37 (0, 0))) := ⟨by (with_reducible repeat (first | refine blk_drewN ?_ _ | refine blk_drew ?_ | refine blk_alloc ?_ _)); refine blk_far ?_ NB444_461.out _; (with_reducible repeat (first | refine blk_drewN ?_ _ | refine blk_drew ?_ | refine blk_alloc ?_ _)); refine blk_far ?_ NB444_461.out _; (with_reducible repeat (first | refine blk_drewN ?_ _ | refine blk_drew ?_ | refine blk_alloc ?_ _)); exact BK444.out⟩
    have n5_ : Aside0 (((w74.setCell ⟨gb461, 2, none⟩ (.int .i64 ji7)).setCell ⟨gb461, 3, none⟩ (.int .i64 ji8)).heap[gb445]? = some (.cells #[.slice none 0 0, .slice none 0 0, .int .i64 0, .int .i64 0, .int .i64 0, .int .i64 0, .slice none 0 0] 26 (0, 0))) := ⟨by (with_reducible repeat (first | refine blk_drewN ?_ _ | refine blk_drew ?_ | refine blk_alloc ?_ _)); refine blk_far ?_ NB445_461.out _; (with_reducible repeat (first | refine blk_drewN ?_ _ | refine blk_drew ?_ | refine blk_alloc ?_ _)); refine blk_far ?_ NB445_461.out _; (with_reducible repeat (first | refine blk_drewN ?_ _ | refine blk_drew ?_ | refine blk_alloc ?_ _)); exact BK445.out⟩
    have n6_ : Aside0 (((w74.setCell ⟨gb461, 2, none⟩ (.int .i64 ji7)).setCell ⟨gb461, 3, none⟩ (.int .i64 ji8)).heap[gb446]? = some (.cells #[.int .u64 0] 37 (0, 0))) := ⟨by (with_reducible repeat (first | refine blk_drewN ?_ _ | refine blk_drew ?_ | refine blk_alloc ?_ _)); refine blk_far ?_ NB446_461.out _; (with_reducible repeat (first | refine blk_drewN ?_ _ | refine blk_drew ?_ | refine blk_alloc ?_ _)); refine blk_far ?_ NB446_461.out _; (with_reducible repeat (first | refine blk_drewN ?_ _ | refine blk_drew ?_ | refine blk_alloc ?_ _)); exact BK446.out⟩
    have n7_ : Aside0 (((w74.setCell ⟨gb461, 2, none⟩ (.int .i64 ji7)).setCell ⟨gb461, 3, none⟩ (.int .i64 ji8)).heap[gb461]? = some (.cells #[.slice Ao65 t448.length co65, .slice Ao71 t451.length co71, .int .i64 ji7, .int .i64 ji8, .int .i64 t456, .int .i64 t457, .slice Ao72 t458.length co72] 26 (0, 0))) := ⟨by (with_reducible repeat (first | refine blk_drewN ?_ _ | refine blk_drew ?_ | refine blk_alloc ?_ _)); refine blk_put (cs := #[.slice Ao65 t448.length co65, .slice Ao71 t451.length co71, .int .i64 ji7, .int .i64 t455, .int .i64 t456, .int .i64 t457, .slice Ao72 t458.length co72]) ?_ 3 _ rfl; (with_reducible repeat (first | refine blk_drewN ?_ _ | refine blk_drew ?_ | refine blk_alloc ?_ _)); refine blk_put (cs := #[.slice Ao65 t448.length co65, .slice Ao71 t451.length co71, .int .i64 t454, .int .i64 t455, .int .i64 t456, .int .i64 t457, .slice Ao72 t458.length co72]) ?_ 2 _ rfl; (with_reducible repeat (first | refine blk_drewN ?_ _ | refine blk_drew ?_ | refine blk_alloc ?_ _)); exact BK461.out⟩
    have n8_ : Aside0 (Below w.heap.size w ((w74.setCell ⟨gb461, 2, none⟩ (.int .i64 ji7)).setCell ⟨gb461, 3, none⟩ (.int .i64 ji8))) := ⟨by repeat (first | (with_reducible first | exact HB.out | apply below_alloc | apply pw_below_drewN | apply below_drew1 | refine below_set ?_ GE443.out | refine below_set ?_ GE444.out | refine below_set ?_ GE445.out | refine below_set ?_ GE446.out | refine below_set ?_ GE461.out) | exact HB.out)⟩
    (try clear HO450)
    (try clear HO453)
    (try clear HO460)
    (try clear BK443)
    (try clear BK444)
    (try clear BK445)
    (try clear BK446)
    (try clear BK461)
    (try clear HB)
    generalize ((w74.setCell ⟨gb461, 2, none⟩ (.int .i64 ji7)).setCell ⟨gb461, 3, none⟩ (.int .i64 ji8)) = w77 at n0_ n1_ n2_ n3_ n4_ n5_ n6_ n7_ n8_ ⊢
    have HO450 := n0_
    have HO453 := n1_
    have HO460 := n2_
    have BK443 := n3_
    have BK444 := n4_
    have BK445 := n5_
    have BK446 := n6_
    have BK461 := n7_
    have HB := n8_
    clear n0_ n1_ n2_ n3_ n4_ n5_ n6_ n7_ n8_
    replace HO450 := Aside0.mk (Kd.R_drew HO450.out)
    replace HO453 := Aside0.mk (Kd.R_drew HO453.out)
    replace HO460 := Aside0.mk (Kd.R_drew HO460.out)
    replace BK443 := Aside0.mk (blk_drew BK443.out)
    replace BK444 := Aside0.mk (blk_drew BK444.out)
    replace BK445 := Aside0.mk (blk_drew BK445.out)
    replace BK446 := Aside0.mk (blk_drew BK446.out)
    replace BK461 := Aside0.mk (blk_drew BK461.out)
    replace HB := Aside0.mk (below_drew1 HB.out)
    refine start_ (n := 10) (S := fun w' => w'.cell? ⟨gb443, 0, none⟩ = some (.slice A1_0 l1_0.length c1_0) ∧ w'.cell? ⟨gb443, 1, none⟩ = some (.slice A1_1 l1_1.length c1_1) ∧ w'.cell? ⟨gb443, 2, none⟩ = some (.int .i64 a1_2) ∧ w'.cell? ⟨gb443, 3, none⟩ = some (.int .i64 a1_3) ∧ w'.cell? ⟨gb443, 4, none⟩ = some (.int .i64 a1_4) ∧ w'.cell? ⟨gb443, 5, none⟩ = some (.int .i64 a1_5) ∧ w'.cell? ⟨gb443, 6, none⟩ = some (.slice A1_6 l1_6.length c1_6) ∧ w'.cell? ⟨gb461, 0, none⟩ = some (.slice Ao65 t448.length co65) ∧ w'.cell? ⟨gb461, 1, none⟩ = some (.slice Ao71 t451.length co71) ∧ w'.cell? ⟨gb461, 2, none⟩ = some (.int .i64 ji7) ∧ w'.cell? ⟨gb461, 3, none⟩ = some (.int .i64 ji8) ∧ w'.cell? ⟨gb461, 4, none⟩ = some (.int .i64 t456) ∧ w'.cell? ⟨gb461, 5, none⟩ = some (.int .i64 t457) ∧ w'.cell? ⟨gb461, 6, none⟩ = some (.slice Ao72 t458.length co72)) (ds := [9]) #[false, false, false, false, false, false, false, false, false, false] (by kernel_rfl) rfl rfl ⟨(blk_cell BK443.out 0).trans rfl, (blk_cell BK443.out 1).trans rfl, (blk_cell BK443.out 2).trans rfl, (blk_cell BK443.out 3).trans rfl, (blk_cell BK443.out 4).trans rfl, (blk_cell BK443.out 5).trans rfl, (blk_cell BK443.out 6).trans rfl, (blk_cell BK461.out 0).trans rfl, (blk_cell BK461.out 1).trans rfl, (blk_cell BK461.out 2).trans rfl, (blk_cell BK461.out 3).trans rfl, (blk_cell BK461.out 4).trans rfl, (blk_cell BK461.out 5).trans rfl, (blk_cell BK461.out 6).trans rfl⟩ (fun hHeld => ?_); refine with_tabW fleet_Day.tab6 fleet_Day.bits6 (fun HT_ HW_ => ?_)
    generalize w77.drew = w78 at HO450 HO453 HO460 BK443 BK444 BK445 BK446 BK461 HB hHeld ⊢
    refine pure_ (i := 0) (N := some 33) (v := ?_) (a' := ?_) (bA 1 10) rfl rfl (any_of HT_.out (by kernel_rfl)) (fun _ _ _ h => h) (Or.inl ⟨by rfl, ?_⟩) ?_ ?_; rotate_left; (intro w'; go_simp; with_reducible rfl); rotate_left; (simp only [Act.put, sI_, s0_, sS_, i64_w, i32_w]; rfl)
    refine pure_ (i := 3) (N := some 36) (v := ?_) (a' := ?_) #[true, false, false, true, false, false, false, false, false, false] rfl rfl (any_of HT_.out (by kernel_rfl)) (fun _ _ _ h => h) (Or.inl ⟨by rfl, ?_⟩) ?_ ?_; rotate_left; (intro w'; go_simp; with_reducible rfl); rotate_left; (simp only [Act.put, sI_, s0_, sS_, i64_w, i32_w]; rfl)
    refine take_ (i := 1) (N := some 34) (v := ?_) (a' := ?_) #[true, true, false, true, false, false, false, false, false, false] rfl rfl (take_ofW HT_.out HW_.out (by kernel_rfl)) (fun _ _ _ h => h) (Or.inl ⟨by rfl, ?_⟩) hHeld ?_ ?_; rotate_left; (rintro w' ⟨s0, s1, s2, s3, s4, s5, s6, s7, s8, s9, s10, s11, s12, s13⟩; go_simp; with_reducible rfl); rotate_left; (simp only [Act.put, sI_, s0_, sS_, i64_w, i32_w]; rfl)
    refine pure_ (i := 2) (N := some 35) (v := ?_) (a' := ?_) (bA 4 10) rfl rfl (any_of HT_.out (by kernel_rfl)) (fun _ _ _ h => h) (Or.inl ⟨by rfl, ?_⟩) ?_ ?_; rotate_left; (intro w'; go_simp; with_reducible rfl); rotate_left; (simp only [Act.put, sI_, s0_, sS_, i64_w, i32_w]; rfl)
    refine take_ (i := 4) (N := some 37) (v := ?_) (a' := ?_) (bA 5 10) rfl rfl (take_ofW HT_.out HW_.out (by kernel_rfl)) (fun _ _ _ h => h) (Or.inl ⟨by rfl, ?_⟩) hHeld ?_ ?_; rotate_left; (rintro w' ⟨s0, s1, s2, s3, s4, s5, s6, s7, s8, s9, s10, s11, s12, s13⟩; go_simp; with_reducible rfl); rotate_left; (simp only [Act.put, sI_, s0_, sS_, i64_w, i32_w]; rfl)
    refine one_ (i := 5) (N := some 38) (bA 6 10) rfl rfl (one_of HT_.out (by kernel_rfl)) (by decide) (fun K hK => ?_)
    refine goes_ Try.func30 (by kernel_rfl) rfl #[.slice A0 l0.length c0, .agg #[.slice Ao65 t448.length co65, .slice Ao71 t451.length co71, .int .i64 ji7, .int .i64 ji8, .int .i64 t456, .int .i64 t457, .slice Ao72 t458.length co72]] (by rfl) rfl rfl (by (try simp only [List.map_toArray, List.map_cons, List.map_nil]); first | done | (simp only [hji7, hji8]; rfl) | rfl | (simp only [List.length_drop, List.length_take]; rfl)) ?_
    with_reducible refine (fleet_spans.calls k _ _ l0 _ _ t448 _ _ t451 ji7 ji8 t456 t457 _ _ t458 t462 _ ?side1 ?side2 ?side3 ?side4 ?side5 ?side6 ?side7 ?side8 A9.out).mono ?_
    (case side1 => exact dC_ HR0 HB)
    (case side2 => exact HC0.out)
    (case side3 => repeat (first | exact (Kd.R_reads' HO450.out).2.2 | (with_reducible refine Kd.C_alloc ?_ _) | (with_reducible refine Kd.C_drewN ?_ _) | (with_reducible refine Kd.C_drew ?_)))
    (case side4 => exact (Kd.R_reads' HO450.out).2.1)
    (case side5 => repeat (first | exact (Kd.R_reads' HO453.out).2.2 | (with_reducible refine Kd.C_alloc ?_ _) | (with_reducible refine Kd.C_drewN ?_ _) | (with_reducible refine Kd.C_drew ?_)))
    (case side6 => exact (Kd.R_reads' HO453.out).2.1)
    (case side7 => repeat (first | exact (Kd.R_reads' HO460.out).2.2 | (with_reducible refine Kd.C_alloc ?_ _) | (with_reducible refine Kd.C_drewN ?_ _) | (with_reducible refine Kd.C_drew ?_)))
    (case side8 => exact (Kd.R_reads' HO460.out).2.1)
    rintro e w79 ⟨rfl, hb⟩
    refine ⟨_, rfl, ?_⟩
    replace HO450 := Aside0.mk (Kd.R_below (dR_ HO450) hb)
    replace HO453 := Aside0.mk (Kd.R_below (dR_ HO453) hb)
    replace HO460 := Aside0.mk (Kd.R_below (dR_ HO460) hb)
    replace BK443 := Aside0.mk (blk_below (g := gb443) (o := .cells #[.slice A1_0 l1_0.length c1_0, .slice A1_1 l1_1.length c1_1, .int .i64 a1_2, .int .i64 a1_3, .int .i64 a1_4, .int .i64 a1_5, .slice A1_6 l1_6.length c1_6] 26 (0, 0)) (dB_ BK443) hb)
    replace BK444 := Aside0.mk (blk_below (g := gb444) (o := .cells #[.int .u64 a2_0] 37 (0, 0)) (dB_ BK444) hb)
    replace BK445 := Aside0.mk (blk_below (g := gb445) (o := .cells #[.slice none 0 0, .slice none 0 0, .int .i64 0, .int .i64 0, .int .i64 0, .int .i64 0, .slice none 0 0] 26 (0, 0)) (dB_ BK445) hb)
    replace BK446 := Aside0.mk (blk_below (g := gb446) (o := .cells #[.int .u64 0] 37 (0, 0)) (dB_ BK446) hb)
    replace BK461 := Aside0.mk (blk_below (g := gb461) (o := .cells #[.slice Ao65 t448.length co65, .slice Ao71 t451.length co71, .int .i64 ji7, .int .i64 ji8, .int .i64 t456, .int .i64 t457, .slice Ao72 t458.length co72] 26 (0, 0)) (dB_ BK461) hb)
    replace HB := Aside0.mk (below_step (by repeat (first | (with_reducible first | exact HB.out | apply below_alloc | apply pw_below_drewN | apply below_drew1 | refine below_set ?_ GE443.out | refine below_set ?_ GE444.out | refine below_set ?_ GE445.out | refine below_set ?_ GE446.out | refine below_set ?_ GE461.out) | exact HB.out)) hb)
    (try clear hb)
    (try clear hb2)
    (try clear hk)
    (try clear hi)
    refine hK.out _ _ ⟨(blk_cell BK443.out 0).trans rfl, (blk_cell BK443.out 1).trans rfl, (blk_cell BK443.out 2).trans rfl, (blk_cell BK443.out 3).trans rfl, (blk_cell BK443.out 4).trans rfl, (blk_cell BK443.out 5).trans rfl, (blk_cell BK443.out 6).trans rfl, (blk_cell BK461.out 0).trans rfl, (blk_cell BK461.out 1).trans rfl, (blk_cell BK461.out 2).trans rfl, (blk_cell BK461.out 3).trans rfl, (blk_cell BK461.out 4).trans rfl, (blk_cell BK461.out 5).trans rfl, (blk_cell BK461.out 6).trans rfl⟩ (fun hHeld => ?_)
    clear hK K
    refine norm_ (a' := ?_) ?_ ?_
    rotate_left
    ·show Act.put _ (some 38) _ = _
     simp only [Act.put, sI_, s0_, sS_, i64_w, i32_w]
     rfl
    refine pure_ (i := 6) (N := some 39) (v := ?_) (a' := ?_) (bA 7 10) rfl rfl (any_of HT_.out (by kernel_rfl)) (fun _ _ _ h => h) (Or.inl ⟨by rfl, ?_⟩) ?_ ?_; rotate_left; (intro w'; go_simp; with_reducible rfl); rotate_left; (simp only [Act.put, sI_, s0_, sS_, i64_w, i32_w]; rfl)
    refine pure_ (i := 7) (N := some 40) (v := ?_) (a' := ?_) (bA 8 10) rfl rfl (any_of HT_.out (by kernel_rfl)) (fun _ _ _ h => h) (Or.inl ⟨by rfl, ?_⟩) ?_ ?_; rotate_left; (intro w'; go_simp; with_reducible rfl); rotate_left; (simp only [Act.put, sI_, s0_, sS_, i64_w, i32_w]; rfl)
    refine pure_ (i := 8) (N := some 41) (v := ?_) (a' := ?_) (bA 9 10) rfl rfl (any_of HT_.out (by kernel_rfl)) (fun _ _ _ h => h) (Or.inl ⟨by rfl, ?_⟩) ?_ ?_; rotate_left; (intro w'; go_simp; with_reducible rfl); rotate_left; (simp only [Act.put, sI_, s0_, sS_, i64_w, i32_w]; rfl)
    refine last_ (i := 9) (N := none) #[true, true, true, true, true, true, true, true, true, true] rfl rfl (one_of HT_.out (by kernel_rfl)) (by decide) (fun K hK => ?_)
    have hs80 : w79.cell? ⟨gb461, 4, none⟩ = some (.int .i64 t456) := (blk_cell BK461.out 4).trans rfl
    have hfs80 := blk_frozen BK461.out 4
    have hns80_0 := NB443_461.out
    have hns80_1 := NB444_461.out
    have hns80_2 := NB445_461.out
    have hns80_3 := NB446_461.out
    have hms80_0 := NB461_443.out
    have hms80_1 := NB461_444.out
    have hms80_2 := NB461_445.out
    have hms80_3 := NB461_446.out
    refine skip_ (w1 := ?_) (by rfl) rfl ?_ ?_
    rotate_left
    ·go_simp
     rfl
    refine hK.out _ _ ?_
    clear hK K
    refine done_ (done_of HT_.out (by kernel_rfl)) ?_
    obtain ⟨hcz81_0, hcz81_1, hcz81_2, hcz81_3, hcz81_4, hcz81_5, hcz81_6, hfz81_0, hfz81_1, hfz81_2, hfz81_3, hfz81_4, hfz81_5, hfz81_6⟩ := cs7_ BK443.out
    have hnb82 := NB444_445.out
    have hnc82 := NB445_444.out
    have hnb83 := NB444_446.out
    have hnc83 := NB446_444.out
    have hcz84_0 : w79.cell? ⟨gb444, 0, none⟩ = some (.int .u64 a2_0) := (blk_cell BK444.out 0).trans rfl
    have hfz84_0 := blk_frozen BK444.out 0
    obtain ⟨hcz85_0, hcz85_1, hcz85_2, hcz85_3, hcz85_4, hcz85_5, hcz85_6, hfz85_0, hfz85_1, hfz85_2, hfz85_3, hfz85_4, hfz85_5, hfz85_6⟩ := cs7_ BK461.out
    try go_wp2_with (first | ((with_reducible refine gate_callee (f := 31) rfl ?_); refine goesL_ (some 52) rfl rfl Try.func31 (by kernel_rfl) rfl #[.agg #[.int .u64 a2_0], .int .i64 (wrap64 (1000 - (ji10))), .int .i64 20000] rfl (by (try simp only [List.map_toArray, List.map_cons, List.map_nil]); first | done | (simp only [hji10]; rfl) | rfl | (simp only [List.length_drop, List.length_take]; rfl)) ?_; (with_reducible refine (roll_Chance.calls k a2_0 (wrap64 (1000 - (ji10))) 20000 true t464 _ A51.out).mono ?_); rintro e w86 ⟨rfl, hb⟩; refine ⟨_, rfl, ?_⟩; replace HO450 := Aside0.mk (Kd.R_below (by (with_reducible repeat (first | apply Kd.R_alloc | apply Kd.R_drewN | apply Kd.R_drew)); exact (Kd.R_mono (Kd.R_far (p := ⟨gb461, 4, none⟩) (Kd.R_types HO450.out BK461.out (by decide)) (fun _ hk => hk.2) (.int .i64 ji10)) (fun _ h_ => h_.1))) hb); replace HO453 := Aside0.mk (Kd.R_below (by (with_reducible repeat (first | apply Kd.R_alloc | apply Kd.R_drewN | apply Kd.R_drew)); exact (Kd.R_mono (Kd.R_far (p := ⟨gb461, 4, none⟩) (Kd.R_types HO453.out BK461.out (by decide)) (fun _ hk => hk.2) (.int .i64 ji10)) (fun _ h_ => h_.1))) hb); replace HO460 := Aside0.mk (Kd.R_below (by (with_reducible repeat (first | apply Kd.R_alloc | apply Kd.R_drewN | apply Kd.R_drew)); exact (Kd.R_mono (Kd.R_far (p := ⟨gb461, 4, none⟩) (Kd.R_types HO460.out BK461.out (by decide)) (fun _ hk => hk.2) (.int .i64 ji10)) (fun _ h_ => h_.1))) hb); replace BK443 := Aside0.mk (blk_below (g := gb443) (o := .cells #[.slice A1_0 l1_0.length c1_0, .slice A1_1 l1_1.length c1_1, .int .i64 a1_2, .int .i64 a1_3, .int .i64 a1_4, .int .i64 a1_5, .slice A1_6 l1_6.length c1_6] 26 (0, 0)) (by (with_reducible repeat (first | refine blk_drewN ?_ _ | refine blk_drew ?_ | refine blk_alloc ?_ _)); refine blk_far ?_ NB443_461.out _; (with_reducible repeat (first | refine blk_drewN ?_ _ | refine blk_drew ?_ | refine blk_alloc ?_ _)); exact BK443.out) hb); replace BK444 := Aside0.mk (blk_below (g := gb444) (o := .cells #[.int .u64 a2_0] 37 (0, 0)) (by (with_reducible repeat (first | refine blk_drewN ?_ _ | refine blk_drew ?_ | refine blk_alloc ?_ _)); refine blk_far ?_ NB444_461.out _; (with_reducible repeat (first | refine blk_drewN ?_ _ | refine blk_drew ?_ | refine blk_alloc ?_ _)); exact BK444.out) hb); replace BK445 := Aside0.mk (blk_below (g := gb445) (o := .cells #[.slice none 0 0, .slice none 0 0, .int .i64 0, .int .i64 0, .int .i64 0, .int .i64 0, .slice none 0 0] 26 (0, 0)) (by (with_reducible repeat (first | refine blk_drewN ?_ _ | refine blk_drew ?_ | refine blk_alloc ?_ _)); refine blk_far ?_ NB445_461.out _; (with_reducible repeat (first | refine blk_drewN ?_ _ | refine blk_drew ?_ | refine blk_alloc ?_ _)); exact BK445.out) hb); replace BK446 := Aside0.mk (blk_below (g := gb446) (o := .cells #[.int .u64 0] 37 (0, 0)) (by (with_reducible repeat (first | refine blk_drewN ?_ _ | refine blk_drew ?_ | refine blk_alloc ?_ _)); refine blk_far ?_ NB446_461.out _; (with_reducible repeat (first | refine blk_drewN ?_ _ | refine blk_drew ?_ | refine blk_alloc ?_ _)); exact BK446.out) hb); replace BK461 := Aside0.mk (blk_below (g := gb461) (o := .cells #[.slice Ao65 t448.length co65, .slice Ao71 t451.length co71, .int .i64 ji7, .int .i64 ji8, .int .i64 ji10, .int .i64 t457, .slice Ao72 t458.length co72] 26 (0, 0)) (by (with_reducible repeat (first | refine blk_drewN ?_ _ | refine blk_drew ?_ | refine blk_alloc ?_ _)); refine blk_put (cs := #[.slice Ao65 t448.length co65, .slice Ao71 t451.length co71, .int .i64 ji7, .int .i64 ji8, .int .i64 t456, .int .i64 t457, .slice Ao72 t458.length co72]) ?_ 4 _ rfl; (with_reducible repeat (first | refine blk_drewN ?_ _ | refine blk_drew ?_ | refine blk_alloc ?_ _)); exact BK461.out) hb); replace HB := Aside0.mk (below_step (by repeat (first | (with_reducible first | exact HB.out | apply below_alloc | apply pw_below_drewN | apply below_drew1 | refine below_set ?_ GE443.out | refine below_set ?_ GE444.out | refine below_set ?_ GE445.out | refine below_set ?_ GE446.out | refine below_set ?_ GE461.out) | exact HB.out)) hb); have hcz87_0 : w86.cell? ⟨gb444, 0, none⟩ = some (.int .u64 a2_0) := (blk_cell BK444.out 0).trans rfl; have hfz87_0 := blk_frozen BK444.out 0; obtain ⟨hcz88_0, hcz88_1, hcz88_2, hcz88_3, hcz88_4, hcz88_5, hcz88_6, hfz88_0, hfz88_1, hfz88_2, hfz88_3, hfz88_4, hfz88_5, hfz88_6⟩ := cs7_ BK461.out))
    have n0_ : Aside0 (Kd.R (Kd.int .i64) 3 ((w86.setCell ⟨gb444, 0, none⟩ (.int .u64 t464)).setCell ⟨gb461, 5, none⟩ (.int .i64 64)) w.heap.size (fun k_ => some k_ ≠ (.slice Ao71 t451.length co71 : Value).ownBlock) (.slice Ao65 t448.length co65) t448) := ⟨by (with_reducible repeat (first | apply Kd.R_alloc | apply Kd.R_drewN | apply Kd.R_drew)); exact Kd.R_mono (Kd.R_far (p := ⟨gb461, 5, none⟩) (Kd.R_far (p := ⟨gb444, 0, none⟩) (Kd.R_types (Kd.R_types HO450.out BK444.out (by decide)) BK461.out (by decide)) (fun _ hk => hk.1.2) (.int .u64 t464)) (fun _ hk => hk.2) (.int .i64 64)) (fun _ hk => hk.1.1)⟩
    have n1_ : Aside0 (Kd.R (Kd.int .i64) 3 ((w86.setCell ⟨gb444, 0, none⟩ (.int .u64 t464)).setCell ⟨gb461, 5, none⟩ (.int .i64 64)) w.heap.size (fun k_ => some k_ ≠ (.slice Ao65 t448.length co65 : Value).ownBlock) (.slice Ao71 t451.length co71) t451) := ⟨by (with_reducible repeat (first | apply Kd.R_alloc | apply Kd.R_drewN | apply Kd.R_drew)); exact Kd.R_mono (Kd.R_far (p := ⟨gb461, 5, none⟩) (Kd.R_far (p := ⟨gb444, 0, none⟩) (Kd.R_types (Kd.R_types HO453.out BK444.out (by decide)) BK461.out (by decide)) (fun _ hk => hk.1.2) (.int .u64 t464)) (fun _ hk => hk.2) (.int .i64 64)) (fun _ hk => hk.1.1)⟩
    have n2_ : Aside0 (Kd.R k49 49 ((w86.setCell ⟨gb444, 0, none⟩ (.int .u64 t464)).setCell ⟨gb461, 5, none⟩ (.int .i64 64)) w.heap.size (fun _ => True) (.slice Ao72 t458.length co72) t458) := ⟨by (with_reducible repeat (first | apply Kd.R_alloc | apply Kd.R_drewN | apply Kd.R_drew)); exact Kd.R_mono (Kd.R_far (p := ⟨gb461, 5, none⟩) (Kd.R_far (p := ⟨gb444, 0, none⟩) (Kd.R_types (Kd.R_types HO460.out BK444.out (by decide)) BK461.out (by decide)) (fun _ hk => hk.1.2) (.int .u64 t464)) (fun _ hk => hk.2) (.int .i64 64)) (fun _ hk => trivial)⟩
    have n3_ : Aside0 (((w86.setCell ⟨gb444, 0, none⟩ (.int .u64 t464)).setCell ⟨gb461, 5, none⟩ (.int .i64 64)).heap[gb443]? = some (.cells #[.slice A1_0 l1_0.length c1_0, .slice A1_1 l1_1.length c1_1, .int .i64 a1_2, .int .i64 a1_3, .int .i64 a1_4, .int .i64 a1_5, .slice A1_6 l1_6.length c1_6] 26 (0, 0))) := ⟨by (with_reducible repeat (first | refine blk_drewN ?_ _ | refine blk_drew ?_ | refine blk_alloc ?_ _)); refine blk_far ?_ NB443_461.out _; (with_reducible repeat (first | refine blk_drewN ?_ _ | refine blk_drew ?_ | refine blk_alloc ?_ _)); refine blk_far ?_ NB443_444.out _; (with_reducible repeat (first | refine blk_drewN ?_ _ | refine blk_drew ?_ | refine blk_alloc ?_ _)); exact BK443.out⟩
    have n4_ : Aside0 (((w86.setCell ⟨gb444, 0, none⟩ (.int .u64 t464)).setCell ⟨gb461, 5, none⟩ (.int .i64 64)).heap[gb444]? = some (.cells #[.int .u64 t464] 37 (0, 0))) := ⟨by (with_reducible repeat (first | refine blk_drewN ?_ _ | refine blk_drew ?_ | refine blk_alloc ?_ _)); refine blk_far ?_ NB444_461.out _; (with_reducible repeat (first | refine blk_drewN ?_ _ | refine blk_drew ?_ | refine blk_alloc ?_ _)); refine blk_put (cs := #[.int .u64 a2_0]) ?_ 0 _ rfl; (with_reducible repeat (first | refine blk_drewN ?_ _ | refine blk_drew ?_ | refine blk_alloc ?_ _)); exact BK444.out⟩
    have n5_ : Aside0 (((w86.setCell ⟨gb444, 0, none⟩ (.int .u64 t464)).setCell ⟨gb461, 5, none⟩ (.int .i64 64)).heap[gb445]? = some (.cells #[.slice none 0 0, .slice none 0 0, .int .i64 0, .int .i64 0, .int .i64 0, .int .i64 0, .slice none 0 0] 26 (0, 0))) := ⟨by (with_reducible repeat (first | refine blk_drewN ?_ _ | refine blk_drew ?_ | refine blk_alloc ?_ _)); refine blk_far ?_ NB445_461.out _; (with_reducible repeat (first | refine blk_drewN ?_ _ | refine blk_drew ?_ | refine blk_alloc ?_ _)); refine blk_far ?_ NB445_444.out _; (with_reducible repeat (first | refine blk_drewN ?_ _ | refine blk_drew ?_ | refine blk_alloc ?_ _)); exact BK445.out⟩
    have n6_ : Aside0 (((w86.setCell ⟨gb444, 0, none⟩ (.int .u64 t464)).setCell ⟨gb461, 5, none⟩ (.int .i64 64)).heap[gb446]? = some (.cells #[.int .u64 0] 37 (0, 0))) := ⟨by (with_reducible repeat (first | refine blk_drewN ?_ _ | refine blk_drew ?_ | refine blk_alloc ?_ _)); refine blk_far ?_ NB446_461.out _; (with_reducible repeat (first | refine blk_drewN ?_ _ | refine blk_drew ?_ | refine blk_alloc ?_ _)); refine blk_far ?_ NB446_444.out _; (with_reducible repeat (first | refine blk_drewN ?_ _ | refine blk_drew ?_ | refine blk_alloc ?_ _)); exact BK446.out⟩
    have n7_ : Aside0 (((w86.setCell ⟨gb444, 0, none⟩ (.int .u64 t464)).setCell ⟨gb461, 5, none⟩ (.int .i64 64)).heap[gb461]? = some (.cells #[.slice Ao65 t448.length co65, .slice Ao71 t451.length co71, .int .i64 ji7, .int .i64 ji8, .int .i64 ji10, .int .i64 64, .slice Ao72 t458.length co72] 26 (0, 0))) := ⟨by (with_reducible repeat (first | refine blk_drewN ?_ _ | refine blk_drew ?_ | refine blk_alloc ?_ _)); refine blk_put (cs := #[.slice Ao65 t448.length co65, .slice Ao71 t451.length co71, .int .i64 ji7, .int .i64 ji8, .int .i64 ji10, .int .i64 t457, .slice Ao72 t458.length co72]) ?_ 5 _ rfl; (with_reducible repeat (first | refine blk_drewN ?_ _ | refine blk_drew ?_ | refine blk_alloc ?_ _)); refine blk_far ?_ NB461_444.out _; (with_reducible repeat (first | refine blk_drewN ?_ _ | refine blk_drew ?_ | refine blk_alloc ?_ _)); exact BK461.out⟩
    have n8_ : Aside0 (Below w.heap.size w ((w86.setCell ⟨gb444, 0, none⟩ (.int .u64 t464)).setCell ⟨gb461, 5, none⟩ (.int .i64 64))) := ⟨by repeat (first | (with_reducible first | exact HB.out | apply below_alloc | apply pw_below_drewN | apply below_drew1 | refine below_set ?_ GE443.out | refine below_set ?_ GE444.out | refine below_set ?_ GE445.out | refine below_set ?_ GE446.out | refine below_set ?_ GE461.out) | exact HB.out)⟩
    (try clear HO450)
    (try clear HO453)
    (try clear HO460)
    (try clear BK443)
    (try clear BK444)
    (try clear BK445)
    (try clear BK446)
    (try clear BK461)
    (try clear HB)
    generalize ((w86.setCell ⟨gb444, 0, none⟩ (.int .u64 t464)).setCell ⟨gb461, 5, none⟩ (.int .i64 64)) = w89 at n0_ n1_ n2_ n3_ n4_ n5_ n6_ n7_ n8_ ⊢
    have HO450 := n0_
    have HO453 := n1_
    have HO460 := n2_
    have BK443 := n3_
    have BK444 := n4_
    have BK445 := n5_
    have BK446 := n6_
    have BK461 := n7_
    have HB := n8_
    clear n0_ n1_ n2_ n3_ n4_ n5_ n6_ n7_ n8_
    replace HO450 := Aside0.mk (Kd.R_drew HO450.out)
    replace HO453 := Aside0.mk (Kd.R_drew HO453.out)
    replace HO460 := Aside0.mk (Kd.R_drew HO460.out)
    replace BK443 := Aside0.mk (blk_drew BK443.out)
    replace BK444 := Aside0.mk (blk_drew BK444.out)
    replace BK445 := Aside0.mk (blk_drew BK445.out)
    replace BK446 := Aside0.mk (blk_drew BK446.out)
    replace BK461 := Aside0.mk (blk_drew BK461.out)
    replace HB := Aside0.mk (below_drew1 HB.out)
    refine start_ (n := 7) (S := fun w' => w'.cell? ⟨gb461, 0, none⟩ = some (.slice Ao65 t448.length co65) ∧ w'.cell? ⟨gb461, 1, none⟩ = some (.slice Ao71 t451.length co71) ∧ w'.cell? ⟨gb461, 2, none⟩ = some (.int .i64 ji7) ∧ w'.cell? ⟨gb461, 3, none⟩ = some (.int .i64 ji8) ∧ w'.cell? ⟨gb461, 4, none⟩ = some (.int .i64 ji10) ∧ w'.cell? ⟨gb461, 5, none⟩ = some (.int .i64 64) ∧ w'.cell? ⟨gb461, 6, none⟩ = some (.slice Ao72 t458.length co72) ∧ w'.cell? ⟨gb444, 0, none⟩ = some (.int .u64 t464)) (ds := []) #[false, false, false, false, false, false, false] (by kernel_rfl) rfl rfl ⟨(blk_cell BK461.out 0).trans rfl, (blk_cell BK461.out 1).trans rfl, (blk_cell BK461.out 2).trans rfl, (blk_cell BK461.out 3).trans rfl, (blk_cell BK461.out 4).trans rfl, (blk_cell BK461.out 5).trans rfl, (blk_cell BK461.out 6).trans rfl, (blk_cell BK444.out 0).trans rfl⟩ (fun hHeld => ?_)
    generalize w89.drew = w90 at HO450 HO453 HO460 BK443 BK444 BK445 BK446 BK461 HB hHeld ⊢
    refine pure_ (i := 1) (N := some 58) (v := ?_) (a' := ?_) #[false, true, false, false, false, false, false] rfl rfl (by kernel_rfl) (fun _ _ _ h => h) (Or.inl ⟨by rfl, ?_⟩) ?_ ?_; rotate_left; (intro w'; go_simp; with_reducible rfl); rotate_left; (simp only [Act.put, sI_, s0_, sS_, i64_w, i32_w]; rfl)
    refine take_ (i := 0) (N := some 57) (v := ?_) (a' := ?_) (bA 2 7) rfl rfl (by kernel_rfl) (fun _ _ _ h => h) (Or.inl ⟨by rfl, ?_⟩) hHeld ?_ ?_; rotate_left; (rintro w' ⟨s0, s1, s2, s3, s4, s5, s6, s7⟩; go_simp; with_reducible rfl); rotate_left; (simp only [Act.put, sI_, s0_, sS_, i64_w, i32_w]; rfl)
    refine take_ (i := 2) (N := some 59) (v := ?_) (a' := ?_) (bA 3 7) rfl rfl (by kernel_rfl) (fun _ _ _ h => h) (Or.inl ⟨by rfl, ?_⟩) hHeld ?_ ?_; rotate_left; (rintro w' ⟨s0, s1, s2, s3, s4, s5, s6, s7⟩; go_simp; with_reducible rfl); rotate_left; (simp only [Act.put, sI_, s0_, sS_, i64_w, i32_w]; rfl)
    refine one_ (i := 3) (N := none) (bA 4 7) rfl rfl (by kernel_rfl) (by decide) (fun K hK => ?_)
    have hs91 : w90.cell? ⟨gb445, 0, none⟩ = some (.slice none 0 0) := (blk_cell BK445.out 0).trans rfl
    have hfs91 := blk_frozen BK445.out 0
    have hns91_0 := NB443_445.out
    have hns91_1 := NB444_445.out
    have hns91_3 := NB446_445.out
    have hns91_4 := NB461_445.out
    have hms91_0 := NB445_443.out
    have hms91_1 := NB445_444.out
    have hms91_3 := NB445_446.out
    have hms91_4 := NB445_461.out
    have hs92 : w90.cell? ⟨gb445, 1, none⟩ = some (.slice none 0 0) := (blk_cell BK445.out 1).trans rfl
    have hfs92 := blk_frozen BK445.out 1
    have hns92_0 := NB443_445.out
    have hns92_1 := NB444_445.out
    have hns92_3 := NB446_445.out
    have hns92_4 := NB461_445.out
    have hms92_0 := NB445_443.out
    have hms92_1 := NB445_444.out
    have hms92_3 := NB445_446.out
    have hms92_4 := NB445_461.out
    have hs93 : w90.cell? ⟨gb445, 2, none⟩ = some (.int .i64 0) := (blk_cell BK445.out 2).trans rfl
    have hfs93 := blk_frozen BK445.out 2
    have hns93_0 := NB443_445.out
    have hns93_1 := NB444_445.out
    have hns93_3 := NB446_445.out
    have hns93_4 := NB461_445.out
    have hms93_0 := NB445_443.out
    have hms93_1 := NB445_444.out
    have hms93_3 := NB445_446.out
    have hms93_4 := NB445_461.out
    have hs94 : w90.cell? ⟨gb445, 3, none⟩ = some (.int .i64 0) := (blk_cell BK445.out 3).trans rfl
    have hfs94 := blk_frozen BK445.out 3
    have hns94_0 := NB443_445.out
    have hns94_1 := NB444_445.out
    have hns94_3 := NB446_445.out
    have hns94_4 := NB461_445.out
    have hms94_0 := NB445_443.out
    have hms94_1 := NB445_444.out
    have hms94_3 := NB445_446.out
    have hms94_4 := NB445_461.out
    have hs95 : w90.cell? ⟨gb445, 4, none⟩ = some (.int .i64 0) := (blk_cell BK445.out 4).trans rfl
    have hfs95 := blk_frozen BK445.out 4
    have hns95_0 := NB443_445.out
    have hns95_1 := NB444_445.out
    have hns95_3 := NB446_445.out
    have hns95_4 := NB461_445.out
    have hms95_0 := NB445_443.out
    have hms95_1 := NB445_444.out
    have hms95_3 := NB445_446.out
    have hms95_4 := NB445_461.out
    have hs96 : w90.cell? ⟨gb445, 5, none⟩ = some (.int .i64 0) := (blk_cell BK445.out 5).trans rfl
    have hfs96 := blk_frozen BK445.out 5
    have hns96_0 := NB443_445.out
    have hns96_1 := NB444_445.out
    have hns96_3 := NB446_445.out
    have hns96_4 := NB461_445.out
    have hms96_0 := NB445_443.out
    have hms96_1 := NB445_444.out
    have hms96_3 := NB445_446.out
    have hms96_4 := NB445_461.out
    have hs97 : w90.cell? ⟨gb445, 6, none⟩ = some (.slice none 0 0) := (blk_cell BK445.out 6).trans rfl
    have hfs97 := blk_frozen BK445.out 6
    have hns97_0 := NB443_445.out
    have hns97_1 := NB444_445.out
    have hns97_3 := NB446_445.out
    have hns97_4 := NB461_445.out
    have hms97_0 := NB445_443.out
    have hms97_1 := NB445_444.out
    have hms97_3 := NB445_446.out
    have hms97_4 := NB445_461.out
    refine skip_ (w1 := ?_) (by rfl) rfl ?_ ?_
    rotate_left
    ·go_simp
     rfl
    refine hK.out _ _ ⟨((cell_far (p := ⟨gb445, _, none⟩) NB461_445.out _).trans (((cell_far (p := ⟨gb445, _, none⟩) NB461_445.out _).trans (((cell_far (p := ⟨gb445, _, none⟩) NB461_445.out _).trans (((cell_far (p := ⟨gb445, _, none⟩) NB461_445.out _).trans (((cell_far (p := ⟨gb445, _, none⟩) NB461_445.out _).trans (((cell_far (p := ⟨gb445, _, none⟩) NB461_445.out _).trans (((cell_far (p := ⟨gb445, _, none⟩) NB461_445.out _).trans (hHeld.1)))))))))))))), ((cell_far (p := ⟨gb445, _, none⟩) NB461_445.out _).trans (((cell_far (p := ⟨gb445, _, none⟩) NB461_445.out _).trans (((cell_far (p := ⟨gb445, _, none⟩) NB461_445.out _).trans (((cell_far (p := ⟨gb445, _, none⟩) NB461_445.out _).trans (((cell_far (p := ⟨gb445, _, none⟩) NB461_445.out _).trans (((cell_far (p := ⟨gb445, _, none⟩) NB461_445.out _).trans (((cell_far (p := ⟨gb445, _, none⟩) NB461_445.out _).trans (hHeld.2.1)))))))))))))), ((cell_far (p := ⟨gb445, _, none⟩) NB461_445.out _).trans (((cell_far (p := ⟨gb445, _, none⟩) NB461_445.out _).trans (((cell_far (p := ⟨gb445, _, none⟩) NB461_445.out _).trans (((cell_far (p := ⟨gb445, _, none⟩) NB461_445.out _).trans (((cell_far (p := ⟨gb445, _, none⟩) NB461_445.out _).trans (((cell_far (p := ⟨gb445, _, none⟩) NB461_445.out _).trans (((cell_far (p := ⟨gb445, _, none⟩) NB461_445.out _).trans (hHeld.2.2.1)))))))))))))), ((cell_far (p := ⟨gb445, _, none⟩) NB461_445.out _).trans (((cell_far (p := ⟨gb445, _, none⟩) NB461_445.out _).trans (((cell_far (p := ⟨gb445, _, none⟩) NB461_445.out _).trans (((cell_far (p := ⟨gb445, _, none⟩) NB461_445.out _).trans (((cell_far (p := ⟨gb445, _, none⟩) NB461_445.out _).trans (((cell_far (p := ⟨gb445, _, none⟩) NB461_445.out _).trans (((cell_far (p := ⟨gb445, _, none⟩) NB461_445.out _).trans (hHeld.2.2.2.1)))))))))))))), ((cell_far (p := ⟨gb445, _, none⟩) NB461_445.out _).trans (((cell_far (p := ⟨gb445, _, none⟩) NB461_445.out _).trans (((cell_far (p := ⟨gb445, _, none⟩) NB461_445.out _).trans (((cell_far (p := ⟨gb445, _, none⟩) NB461_445.out _).trans (((cell_far (p := ⟨gb445, _, none⟩) NB461_445.out _).trans (((cell_far (p := ⟨gb445, _, none⟩) NB461_445.out _).trans (((cell_far (p := ⟨gb445, _, none⟩) NB461_445.out _).trans (hHeld.2.2.2.2.1)))))))))))))), ((cell_far (p := ⟨gb445, _, none⟩) NB461_445.out _).trans (((cell_far (p := ⟨gb445, _, none⟩) NB461_445.out _).trans (((cell_far (p := ⟨gb445, _, none⟩) NB461_445.out _).trans (((cell_far (p := ⟨gb445, _, none⟩) NB461_445.out _).trans (((cell_far (p := ⟨gb445, _, none⟩) NB461_445.out _).trans (((cell_far (p := ⟨gb445, _, none⟩) NB461_445.out _).trans (((cell_far (p := ⟨gb445, _, none⟩) NB461_445.out _).trans (hHeld.2.2.2.2.2.1)))))))))))))), ((cell_far (p := ⟨gb445, _, none⟩) NB461_445.out _).trans (((cell_far (p := ⟨gb445, _, none⟩) NB461_445.out _).trans (((cell_far (p := ⟨gb445, _, none⟩) NB461_445.out _).trans (((cell_far (p := ⟨gb445, _, none⟩) NB461_445.out _).trans (((cell_far (p := ⟨gb445, _, none⟩) NB461_445.out _).trans (((cell_far (p := ⟨gb445, _, none⟩) NB461_445.out _).trans (((cell_far (p := ⟨gb445, _, none⟩) NB461_445.out _).trans (hHeld.2.2.2.2.2.2.1)))))))))))))), ((cell_far (p := ⟨gb445, _, none⟩) NB444_445.out _).trans (((cell_far (p := ⟨gb445, _, none⟩) NB444_445.out _).trans (((cell_far (p := ⟨gb445, _, none⟩) NB444_445.out _).trans (((cell_far (p := ⟨gb445, _, none⟩) NB444_445.out _).trans (((cell_far (p := ⟨gb445, _, none⟩) NB444_445.out _).trans (((cell_far (p := ⟨gb445, _, none⟩) NB444_445.out _).trans (((cell_far (p := ⟨gb445, _, none⟩) NB444_445.out _).trans (hHeld.2.2.2.2.2.2.2))))))))))))))⟩ (fun hHeld => ?_)
    clear hK K
    refine pure_ (i := 4) (N := some 7) (v := ?_) (a' := ?_) (bA 5 7) rfl rfl (by kernel_rfl) (fun _ _ _ h => h) (Or.inl ⟨by rfl, ?_⟩) ?_ ?_; rotate_left; (intro w'; go_simp; with_reducible rfl); rotate_left; (simp only [Act.put, sI_, s0_, sS_, i64_w, i32_w]; rfl)
    refine one_ (i := 5) (N := none) (bA 6 7) rfl rfl (by kernel_rfl) (by decide) (fun K hK => ?_)
    have hs98 : w90.cell? ⟨gb446, 0, none⟩ = some (.int .u64 0) := (blk_cell BK446.out 0).trans rfl
    have hfs98 := blk_frozen BK446.out 0
    have hns98_0 := NB443_446.out
    have hns98_1 := NB444_446.out
    have hns98_2 := NB445_446.out
    have hns98_4 := NB461_446.out
    have hms98_0 := NB446_443.out
    have hms98_1 := NB446_444.out
    have hms98_2 := NB446_445.out
    have hms98_4 := NB446_461.out
    refine skip_ (w1 := ?_) ?_ ?_ ?_ ?_; rotate_left; kernel_rfl; kernel_rfl; (go_simp; rfl)
    refine hK.out _ _ ⟨((cell_far (p := ⟨gb446, _, none⟩) NB461_446.out _).trans (hHeld.1)), ((cell_far (p := ⟨gb446, _, none⟩) NB461_446.out _).trans (hHeld.2.1)), ((cell_far (p := ⟨gb446, _, none⟩) NB461_446.out _).trans (hHeld.2.2.1)), ((cell_far (p := ⟨gb446, _, none⟩) NB461_446.out _).trans (hHeld.2.2.2.1)), ((cell_far (p := ⟨gb446, _, none⟩) NB461_446.out _).trans (hHeld.2.2.2.2.1)), ((cell_far (p := ⟨gb446, _, none⟩) NB461_446.out _).trans (hHeld.2.2.2.2.2.1)), ((cell_far (p := ⟨gb446, _, none⟩) NB461_446.out _).trans (hHeld.2.2.2.2.2.2.1)), ((cell_far (p := ⟨gb446, _, none⟩) NB444_446.out _).trans (hHeld.2.2.2.2.2.2.2))⟩ (fun hHeld => ?_)
    clear hK K
    refine pure_ (i := 6) (N := some 9) (v := ?_) (a' := ?_) (bA 7 7) rfl rfl (by kernel_rfl) (fun _ _ _ h => h) (Or.inl ⟨by rfl, ?_⟩) ?_ ?_; rotate_left; (intro w'; go_simp; with_reducible rfl); rotate_left; (simp only [Act.put, sI_, s0_, sS_, i64_w, i32_w]; rfl)
    refine done_ (by kernel_rfl) ?_
    try go_wp2
    refine bodyPost_ret (results_list (rs := [.cell 6 26, .tmp 7, .cell 8 37, .tmp 9]) rfl (by simp) (.cell gb445 26 #[.slice Ao65 t448.length co65, .slice Ao71 t451.length co71, .int .i64 ji7, .int .i64 ji8, .int .i64 ji10, .int .i64 64, .slice Ao72 t458.length co72] (0, 0) _ rfl (by (with_reducible repeat (first | refine blk_drewN ?_ _ | refine blk_drew ?_ | refine blk_alloc ?_ _)); refine blk_far ?_ NB445_446.out _; (with_reducible repeat (first | refine blk_drewN ?_ _ | refine blk_drew ?_ | refine blk_alloc ?_ _)); refine blk_put (cs := #[.slice Ao65 t448.length co65, .slice Ao71 t451.length co71, .int .i64 ji7, .int .i64 ji8, .int .i64 ji10, .int .i64 64, .slice none 0 0]) ?_ 6 _ rfl; (with_reducible repeat (first | refine blk_drewN ?_ _ | refine blk_drew ?_ | refine blk_alloc ?_ _)); refine blk_put (cs := #[.slice Ao65 t448.length co65, .slice Ao71 t451.length co71, .int .i64 ji7, .int .i64 ji8, .int .i64 ji10, .int .i64 0, .slice none 0 0]) ?_ 5 _ rfl; (with_reducible repeat (first | refine blk_drewN ?_ _ | refine blk_drew ?_ | refine blk_alloc ?_ _)); refine blk_put (cs := #[.slice Ao65 t448.length co65, .slice Ao71 t451.length co71, .int .i64 ji7, .int .i64 ji8, .int .i64 0, .int .i64 0, .slice none 0 0]) ?_ 4 _ rfl; (with_reducible repeat (first | refine blk_drewN ?_ _ | refine blk_drew ?_ | refine blk_alloc ?_ _)); refine blk_put (cs := #[.slice Ao65 t448.length co65, .slice Ao71 t451.length co71, .int .i64 ji7, .int .i64 0, .int .i64 0, .int .i64 0, .slice none 0 0]) ?_ 3 _ rfl; (with_reducible repeat (first | refine blk_drewN ?_ _ | refine blk_drew ?_ | refine blk_alloc ?_ _)); refine blk_put (cs := #[.slice Ao65 t448.length co65, .slice Ao71 t451.length co71, .int .i64 0, .int .i64 0, .int .i64 0, .int .i64 0, .slice none 0 0]) ?_ 2 _ rfl; (with_reducible repeat (first | refine blk_drewN ?_ _ | refine blk_drew ?_ | refine blk_alloc ?_ _)); refine blk_put (cs := #[.slice Ao65 t448.length co65, .slice none 0 0, .int .i64 0, .int .i64 0, .int .i64 0, .int .i64 0, .slice none 0 0]) ?_ 1 _ rfl; (with_reducible repeat (first | refine blk_drewN ?_ _ | refine blk_drew ?_ | refine blk_alloc ?_ _)); refine blk_put (cs := #[.slice none 0 0, .slice none 0 0, .int .i64 0, .int .i64 0, .int .i64 0, .int .i64 0, .slice none 0 0]) ?_ 0 _ rfl; (with_reducible repeat (first | refine blk_drewN ?_ _ | refine blk_drew ?_ | refine blk_alloc ?_ _)); exact BK445.out) Try.underlying26 rfl (by kernel_rfl) (.tmp (.cell gb446 37 #[.int .u64 t464] (0, 0) _ rfl (by (with_reducible repeat (first | refine blk_drewN ?_ _ | refine blk_drew ?_ | refine blk_alloc ?_ _)); refine blk_put (cs := #[.int .u64 0]) ?_ 0 _ rfl; (with_reducible repeat (first | refine blk_drewN ?_ _ | refine blk_drew ?_ | refine blk_alloc ?_ _)); refine blk_far ?_ NB446_445.out _; (with_reducible repeat (first | refine blk_drewN ?_ _ | refine blk_drew ?_ | refine blk_alloc ?_ _)); refine blk_far ?_ NB446_445.out _; (with_reducible repeat (first | refine blk_drewN ?_ _ | refine blk_drew ?_ | refine blk_alloc ?_ _)); refine blk_far ?_ NB446_445.out _; (with_reducible repeat (first | refine blk_drewN ?_ _ | refine blk_drew ?_ | refine blk_alloc ?_ _)); refine blk_far ?_ NB446_445.out _; (with_reducible repeat (first | refine blk_drewN ?_ _ | refine blk_drew ?_ | refine blk_alloc ?_ _)); refine blk_far ?_ NB446_445.out _; (with_reducible repeat (first | refine blk_drewN ?_ _ | refine blk_drew ?_ | refine blk_alloc ?_ _)); refine blk_far ?_ NB446_445.out _; (with_reducible repeat (first | refine blk_drewN ?_ _ | refine blk_drew ?_ | refine blk_alloc ?_ _)); refine blk_far ?_ NB446_445.out _; (with_reducible repeat (first | refine blk_drewN ?_ _ | refine blk_drew ?_ | refine blk_alloc ?_ _)); exact BK446.out) Try.underlying37 rfl (by kernel_rfl) (.tmp .nil))))) rfl ?_
    exact ⟨_, _, _, by first | rfl | (simp [errW_none, errW_some] <;> rfl) | (simp only [← hji7, ← hji8, ← hji10]; first | rfl | (simp [errW_none, errW_some] <;> rfl)) | (simp [*, errW_none, errW_some] <;> rfl), by (with_reducible repeat (first | apply Kd.R_alloc | apply Kd.R_drewN | apply Kd.R_drew)); exact Kd.R_mono (Kd.R_far (p := ⟨gb446, 0, none⟩) (far7_ (Kd.R_types (Kd.R_types HO450.out BK445.out (by decide)) BK446.out (by decide)) gb445 (fun _ hk => hk.1.2) (.slice Ao65 t448.length co65) (.slice Ao71 t451.length co71) (.int .i64 ji7) (.int .i64 ji8) (.int .i64 ji10) (.int .i64 64) (.slice Ao72 t458.length co72)) (fun _ hk => hk.2) (.int .u64 t464)) (fun _ hk => hk.1.1), by (with_reducible repeat (first | apply Kd.R_alloc | apply Kd.R_drewN | apply Kd.R_drew)); exact Kd.R_mono (Kd.R_far (p := ⟨gb446, 0, none⟩) (far7_ (Kd.R_types (Kd.R_types HO453.out BK445.out (by decide)) BK446.out (by decide)) gb445 (fun _ hk => hk.1.2) (.slice Ao65 t448.length co65) (.slice Ao71 t451.length co71) (.int .i64 ji7) (.int .i64 ji8) (.int .i64 ji10) (.int .i64 64) (.slice Ao72 t458.length co72)) (fun _ hk => hk.2) (.int .u64 t464)) (fun _ hk => hk.1.1), by (with_reducible repeat (first | apply Kd.R_alloc | apply Kd.R_drewN | apply Kd.R_drew)); exact Kd.R_mono (Kd.R_far (p := ⟨gb446, 0, none⟩) (far7_ (Kd.R_types (Kd.R_types HO460.out BK445.out (by decide)) BK446.out (by decide)) gb445 (fun _ hk => hk.1.2) (.slice Ao65 t448.length co65) (.slice Ao71 t451.length co71) (.int .i64 ji7) (.int .i64 ji8) (.int .i64 ji10) (.int .i64 64) (.slice Ao72 t458.length co72)) (fun _ hk => hk.2) (.int .u64 t464)) (fun _ hk => trivial), by repeat (first | (with_reducible first | exact HB.out | apply below_alloc | apply pw_below_drewN | apply below_drew1 | refine below_set ?_ GE443.out | refine below_set ?_ GE444.out | refine below_set ?_ GE445.out | refine below_set ?_ GE446.out | refine below_set ?_ GE461.out) | exact HB.out)⟩
   ·replace c52 := Bool.eq_false_iff.mpr c52
    subst c52
    have H1 : (some (t448, t451, ji7, ji8, ji10, t457, t458, false, t464, 0)) = some (r1, r2, r3, r4, r5, r6, r7, r8, r9, r10) := by rw [if_neg (show ¬ (false = true) by decide)] at H; exact H
    clear H
    have H := H1
    clear H1
    simp only [Option.some.injEq, Prod.mk.injEq] at H
    obtain ⟨rfl, rfl, rfl, rfl, rfl, rfl, rfl, rfl, rfl, rfl⟩ := H
    go_enter Try.func12, Try.ntmps12
    try go_wp2_with (first | ((with_reducible refine gate_dst (N := 4) rfl ?_); refine box_event ?hg (N := 4) ?hd (cs := #[.slice A1_0 l1_0.length c1_0, .slice A1_1 l1_1.length c1_1, .int .i64 a1_2, .int .i64 a1_3, .int .i64 a1_4, .int .i64 a1_5, .slice A1_6 l1_6.length c1_6]) (t := 26) ?hr ?_; (case hd => rfl); (case hg => rfl); (case hr => first | (go_simp; done) | (go_simp; rfl)); intro gb443 hg w99 hbox hb; have BK443 := Aside0.mk (hbox); have GW443 := Aside0.mk ((dS_ hg (dL_ HB) : w.heap.size ≤ gb443)); have GE443 := Aside0.mk ((dS_ hg (dL_ HB) : w.heap.size ≤ gb443)); replace HB := Aside0.mk (below_step (dL_ HB) hb); clear hb hbox hg) | ((with_reducible refine gate_dst (N := 5) rfl ?_); refine box_event ?hg (N := 5) ?hd (cs := #[.int .u64 a2_0]) (t := 37) ?hr ?_; (case hd => rfl); (case hg => rfl); (case hr => first | (go_simp; done) | (go_simp; rfl)); intro gb444 hg w100 hbox hb; have BK444 := Aside0.mk (hbox); have GW444 := Aside0.mk ((dS_ hg (dL1_ HB GE443) : w.heap.size ≤ gb444)); have GE444 := Aside0.mk ((dS_ hg (dL1_ HB GE443) : w.heap.size ≤ gb444)); replace HB := Aside0.mk (below_step (dL1_ HB GE443) hb); have NB443_444 := Aside0.mk ((by rw [hg]; exact Nat.ne_of_lt (blk_lt (dB_ BK443)) : gb443 ≠ gb444)); have NB444_443 := Aside0.mk ((by rw [hg]; exact Nat.ne_of_gt (blk_lt (dB_ BK443)) : gb444 ≠ gb443)); replace BK443 := Aside0.mk (blk_below (g := gb443) (o := .cells #[.slice A1_0 l1_0.length c1_0, .slice A1_1 l1_1.length c1_1, .int .i64 a1_2, .int .i64 a1_3, .int .i64 a1_4, .int .i64 a1_5, .slice A1_6 l1_6.length c1_6] 26 (0, 0)) (dB_ BK443) hb); clear hb hbox hg) | ((with_reducible refine gate_dst (N := 6) rfl ?_); refine box_event ?hg (N := 6) ?hd (cs := #[.slice none 0 0, .slice none 0 0, .int .i64 0, .int .i64 0, .int .i64 0, .int .i64 0, .slice none 0 0]) (t := 26) ?hr ?_; (case hd => rfl); (case hg => rfl); (case hr => first | (go_simp; done) | (go_simp; rfl)); intro gb445 hg w101 hbox hb; have BK445 := Aside0.mk (hbox); have GW445 := Aside0.mk ((dS_ hg (dL2_ HB GE443 GE444) : w.heap.size ≤ gb445)); have GE445 := Aside0.mk ((dS_ hg (dL2_ HB GE443 GE444) : w.heap.size ≤ gb445)); replace HB := Aside0.mk (below_step (dL2_ HB GE443 GE444) hb); have NB443_445 := Aside0.mk ((by rw [hg]; exact Nat.ne_of_lt (blk_lt (dB_ BK443)) : gb443 ≠ gb445)); have NB445_443 := Aside0.mk ((by rw [hg]; exact Nat.ne_of_gt (blk_lt (dB_ BK443)) : gb445 ≠ gb443)); replace BK443 := Aside0.mk (blk_below (g := gb443) (o := .cells #[.slice A1_0 l1_0.length c1_0, .slice A1_1 l1_1.length c1_1, .int .i64 a1_2, .int .i64 a1_3, .int .i64 a1_4, .int .i64 a1_5, .slice A1_6 l1_6.length c1_6] 26 (0, 0)) (dB_ BK443) hb); have NB444_445 := Aside0.mk ((by rw [hg]; exact Nat.ne_of_lt (blk_lt (dB_ BK444)) : gb444 ≠ gb445)); have NB445_444 := Aside0.mk ((by rw [hg]; exact Nat.ne_of_gt (blk_lt (dB_ BK444)) : gb445 ≠ gb444)); replace BK444 := Aside0.mk (blk_below (g := gb444) (o := .cells #[.int .u64 a2_0] 37 (0, 0)) (dB_ BK444) hb); clear hb hbox hg) | ((with_reducible refine gate_dst (N := 8) rfl ?_); refine box_event ?hg (N := 8) ?hd (cs := #[.int .u64 0]) (t := 37) ?hr ?_; (case hd => rfl); (case hg => rfl); (case hr => first | (go_simp; done) | (go_simp; rfl)); intro gb446 hg w102 hbox hb; have BK446 := Aside0.mk (hbox); have GW446 := Aside0.mk ((dS_ hg (dL3_ HB GE443 GE444 GE445) : w.heap.size ≤ gb446)); have GE446 := Aside0.mk ((dS_ hg (dL3_ HB GE443 GE444 GE445) : w.heap.size ≤ gb446)); replace HB := Aside0.mk (below_step (dL3_ HB GE443 GE444 GE445) hb); have NB443_446 := Aside0.mk ((by rw [hg]; exact Nat.ne_of_lt (blk_lt (dB_ BK443)) : gb443 ≠ gb446)); have NB446_443 := Aside0.mk ((by rw [hg]; exact Nat.ne_of_gt (blk_lt (dB_ BK443)) : gb446 ≠ gb443)); replace BK443 := Aside0.mk (blk_below (g := gb443) (o := .cells #[.slice A1_0 l1_0.length c1_0, .slice A1_1 l1_1.length c1_1, .int .i64 a1_2, .int .i64 a1_3, .int .i64 a1_4, .int .i64 a1_5, .slice A1_6 l1_6.length c1_6] 26 (0, 0)) (dB_ BK443) hb); have NB444_446 := Aside0.mk ((by rw [hg]; exact Nat.ne_of_lt (blk_lt (dB_ BK444)) : gb444 ≠ gb446)); have NB446_444 := Aside0.mk ((by rw [hg]; exact Nat.ne_of_gt (blk_lt (dB_ BK444)) : gb446 ≠ gb444)); replace BK444 := Aside0.mk (blk_below (g := gb444) (o := .cells #[.int .u64 a2_0] 37 (0, 0)) (dB_ BK444) hb); have NB445_446 := Aside0.mk ((by rw [hg]; exact Nat.ne_of_lt (blk_lt (dB_ BK445)) : gb445 ≠ gb446)); have NB446_445 := Aside0.mk ((by rw [hg]; exact Nat.ne_of_gt (blk_lt (dB_ BK445)) : gb446 ≠ gb445)); replace BK445 := Aside0.mk (blk_below (g := gb445) (o := .cells #[.slice none 0 0, .slice none 0 0, .int .i64 0, .int .i64 0, .int .i64 0, .int .i64 0, .slice none 0 0] 26 (0, 0)) (dB_ BK445) hb); clear hb hbox hg; have hnb103 := NB443_444.out; have hnc103 := NB444_443.out; have hnb104 := NB443_445.out; have hnc104 := NB445_443.out; have hnb105 := NB443_446.out; have hnc105 := NB446_443.out; obtain ⟨hcz106_0, hcz106_1, hcz106_2, hcz106_3, hcz106_4, hcz106_5, hcz106_6, hfz106_0, hfz106_1, hfz106_2, hfz106_3, hfz106_4, hfz106_5, hfz106_6⟩ := cs7_ BK443.out) | ((with_reducible refine gate_callee (f := 11) rfl ?_); refine goesL_ (some 15) rfl rfl Try.func11 (by kernel_rfl) rfl #[.slice A0 l0.length c0, .agg #[.slice A1_0 l1_0.length c1_0, .slice A1_1 l1_1.length c1_1, .int .i64 a1_2, .int .i64 a1_3, .int .i64 a1_4, .int .i64 a1_5, .slice A1_6 l1_6.length c1_6]] rfl tA_ ?_; (with_reducible refine (fleet_Validate.calls k _ _ l0 _ _ l1_0 _ _ l1_1 a1_2 a1_3 a1_4 a1_5 _ _ l1_6 t447 _ ?side1 ?side2 ?side3 ?side4 ?side5 ?side6 ?side7 ?side8 A4.out).mono ?_); (case side1 => exact dC_ HR0 HB); (case side2 => exact HC0.out); (case side3 => exact dC_ HR1_0 HB); (case side4 => exact HC1_0.out); (case side5 => exact dC_ HR1_1 HB); (case side6 => exact HC1_1.out); (case side7 => exact dC_ HR1_6 HB); (case side8 => exact HC1_6.out); rintro e w107 ⟨rfl, hb⟩; refine ⟨_, rfl, ?_⟩; replace BK443 := Aside0.mk (blk_below (g := gb443) (o := .cells #[.slice A1_0 l1_0.length c1_0, .slice A1_1 l1_1.length c1_1, .int .i64 a1_2, .int .i64 a1_3, .int .i64 a1_4, .int .i64 a1_5, .slice A1_6 l1_6.length c1_6] 26 (0, 0)) (dB_ BK443) hb); replace BK444 := Aside0.mk (blk_below (g := gb444) (o := .cells #[.int .u64 a2_0] 37 (0, 0)) (dB_ BK444) hb); replace BK445 := Aside0.mk (blk_below (g := gb445) (o := .cells #[.slice none 0 0, .slice none 0 0, .int .i64 0, .int .i64 0, .int .i64 0, .int .i64 0, .slice none 0 0] 26 (0, 0)) (dB_ BK445) hb); replace BK446 := Aside0.mk (blk_below (g := gb446) (o := .cells #[.int .u64 0] 37 (0, 0)) (dB_ BK446) hb); replace HB := Aside0.mk (below_step (dL4_ HB GE443 GE444 GE445 GE446) hb); obtain ⟨hcz108_0, hcz108_1, hcz108_2, hcz108_3, hcz108_4, hcz108_5, hcz108_6, hfz108_0, hfz108_1, hfz108_2, hfz108_3, hfz108_4, hfz108_5, hfz108_6⟩ := cs7_ BK443.out) | ((with_reducible refine gate_callee (f := 19) rfl ?_); refine goesL_ (some 22) rfl rfl Try.func19 (by kernel_rfl) rfl #[.agg #[.slice A1_0 l1_0.length c1_0, .slice A1_1 l1_1.length c1_1, .int .i64 a1_2, .int .i64 a1_3, .int .i64 a1_4, .int .i64 a1_5, .slice A1_6 l1_6.length c1_6]] rfl tA_ ?_; (with_reducible refine (fleet_clone.calls _ _ l1_0 _ _ l1_1 a1_2 a1_3 a1_4 a1_5 _ _ l1_6 t448 t451 t454 t455 t456 t457 t458 _ ?side1 ?side2 ?side3 ?side4 ?side5 ?side6 A6.out).mono ?_); (case side1 => exact dC_ HR1_0 HB); (case side2 => exact HC1_0.out); (case side3 => exact dC_ HR1_1 HB); (case side4 => exact HC1_1.out); (case side5 => exact dC_ HR1_6 HB); (case side6 => exact HC1_6.out); rintro e w109 ⟨v449, v452, v459, rfl, ho0, ho1, ho2, hb⟩; refine ⟨_, rfl, ?_⟩; have HO450 := Aside0.mk (Kd.R_lower ho0 (below_size (dL4_ HB GE443 GE444 GE445 GE446))); have HO453 := Aside0.mk (Kd.R_lower ho1 (below_size (dL4_ HB GE443 GE444 GE445 GE446))); have HO460 := Aside0.mk (Kd.R_lower ho2 (below_size (dL4_ HB GE443 GE444 GE445 GE446))); replace BK443 := Aside0.mk (blk_below (g := gb443) (o := .cells #[.slice A1_0 l1_0.length c1_0, .slice A1_1 l1_1.length c1_1, .int .i64 a1_2, .int .i64 a1_3, .int .i64 a1_4, .int .i64 a1_5, .slice A1_6 l1_6.length c1_6] 26 (0, 0)) (dB_ BK443) hb); replace BK444 := Aside0.mk (blk_below (g := gb444) (o := .cells #[.int .u64 a2_0] 37 (0, 0)) (dB_ BK444) hb); replace BK445 := Aside0.mk (blk_below (g := gb445) (o := .cells #[.slice none 0 0, .slice none 0 0, .int .i64 0, .int .i64 0, .int .i64 0, .int .i64 0, .slice none 0 0] 26 (0, 0)) (dB_ BK445) hb); replace BK446 := Aside0.mk (blk_below (g := gb446) (o := .cells #[.int .u64 0] 37 (0, 0)) (dB_ BK446) hb); replace HB := Aside0.mk (below_step (dL4_ HB GE443 GE444 GE445 GE446) hb)) | ((with_reducible refine gate_dst (N := 11) rfl ?_); refine box_event ?hg (N := 11) ?hd (cs := #[.slice none 0 0, .slice none 0 0, .int .i64 0, .int .i64 0, .int .i64 0, .int .i64 0, .slice none 0 0]) (t := 26) ?hr ?_; (case hd => rfl); (case hg => rfl); (case hr => first | (go_simp; done) | (go_simp; rfl)); intro gb461 hg w110 hbox hb; replace HO450 := Aside0.mk (Kd.R_below (dR_ HO450) hb); replace HO453 := Aside0.mk (Kd.R_below (dR_ HO453) hb); replace HO460 := Aside0.mk (Kd.R_below (dR_ HO460) hb); have BK461 := Aside0.mk (hbox); have GW461 := Aside0.mk ((dS_ hg (dL4_ HB GE443 GE444 GE445 GE446) : w.heap.size ≤ gb461)); have GE461 := Aside0.mk ((dS_ hg (dL4_ HB GE443 GE444 GE445 GE446) : w.heap.size ≤ gb461)); replace HB := Aside0.mk (below_step (dL4_ HB GE443 GE444 GE445 GE446) hb); have NB443_461 := Aside0.mk ((by rw [hg]; exact Nat.ne_of_lt (blk_lt (dB_ BK443)) : gb443 ≠ gb461)); have NB461_443 := Aside0.mk ((by rw [hg]; exact Nat.ne_of_gt (blk_lt (dB_ BK443)) : gb461 ≠ gb443)); replace BK443 := Aside0.mk (blk_below (g := gb443) (o := .cells #[.slice A1_0 l1_0.length c1_0, .slice A1_1 l1_1.length c1_1, .int .i64 a1_2, .int .i64 a1_3, .int .i64 a1_4, .int .i64 a1_5, .slice A1_6 l1_6.length c1_6] 26 (0, 0)) (dB_ BK443) hb); have NB444_461 := Aside0.mk ((by rw [hg]; exact Nat.ne_of_lt (blk_lt (dB_ BK444)) : gb444 ≠ gb461)); have NB461_444 := Aside0.mk ((by rw [hg]; exact Nat.ne_of_gt (blk_lt (dB_ BK444)) : gb461 ≠ gb444)); replace BK444 := Aside0.mk (blk_below (g := gb444) (o := .cells #[.int .u64 a2_0] 37 (0, 0)) (dB_ BK444) hb); have NB445_461 := Aside0.mk ((by rw [hg]; exact Nat.ne_of_lt (blk_lt (dB_ BK445)) : gb445 ≠ gb461)); have NB461_445 := Aside0.mk ((by rw [hg]; exact Nat.ne_of_gt (blk_lt (dB_ BK445)) : gb461 ≠ gb445)); replace BK445 := Aside0.mk (blk_below (g := gb445) (o := .cells #[.slice none 0 0, .slice none 0 0, .int .i64 0, .int .i64 0, .int .i64 0, .int .i64 0, .slice none 0 0] 26 (0, 0)) (dB_ BK445) hb); have NB446_461 := Aside0.mk ((by rw [hg]; exact Nat.ne_of_lt (blk_lt (dB_ BK446)) : gb446 ≠ gb461)); have NB461_446 := Aside0.mk ((by rw [hg]; exact Nat.ne_of_gt (blk_lt (dB_ BK446)) : gb461 ≠ gb446)); replace BK446 := Aside0.mk (blk_below (g := gb446) (o := .cells #[.int .u64 0] 37 (0, 0)) (dB_ BK446) hb); clear hb hbox hg; obtain ⟨Ao111, co111, eo111⟩ := Kd.R_slice HO450.out; subst eo111; have hnb112 := NB461_443.out; have hnc112 := NB443_461.out; have hnb113 := NB461_444.out; have hnc113 := NB444_461.out; have hnb114 := NB461_445.out; have hnc114 := NB445_461.out; have hnb115 := NB461_446.out; have hnc115 := NB446_461.out; obtain ⟨hcz116_0, hcz116_1, hcz116_2, hcz116_3, hcz116_4, hcz116_5, hcz116_6, hfz116_0, hfz116_1, hfz116_2, hfz116_3, hfz116_4, hfz116_5, hfz116_6⟩ := cs7_ BK461.out; obtain ⟨Ao117, co117, eo117⟩ := Kd.R_slice HO453.out; subst eo117; obtain ⟨Ao118, co118, eo118⟩ := Kd.R_slice HO460.out; subst eo118))
    have n0_ : Aside0 (Kd.R (Kd.int .i64) 3 (((((((w110.setCell ⟨gb461, 0, none⟩ (.slice Ao111 t448.length co111)).setCell ⟨gb461, 1, none⟩ (.slice Ao117 t451.length co117)).setCell ⟨gb461, 2, none⟩ (.int .i64 t454)).setCell ⟨gb461, 3, none⟩ (.int .i64 t455)).setCell ⟨gb461, 4, none⟩ (.int .i64 t456)).setCell ⟨gb461, 5, none⟩ (.int .i64 t457)).setCell ⟨gb461, 6, none⟩ (.slice Ao118 t458.length co118)) w.heap.size (fun k_ => some k_ ≠ (.slice Ao117 t451.length co117 : Value).ownBlock) (.slice Ao111 t448.length co111) t448) := ⟨by (with_reducible repeat (first | apply Kd.R_alloc | apply Kd.R_drewN | apply Kd.R_drew)); exact Kd.R_mono (far7_ (Kd.R_types HO450.out BK461.out (by decide)) gb461 (fun _ hk => hk.2) (.slice Ao111 t448.length co111) (.slice Ao117 t451.length co117) (.int .i64 t454) (.int .i64 t455) (.int .i64 t456) (.int .i64 t457) (.slice Ao118 t458.length co118)) (fun _ hk => hk.1)⟩
    have n1_ : Aside0 (Kd.R (Kd.int .i64) 3 (((((((w110.setCell ⟨gb461, 0, none⟩ (.slice Ao111 t448.length co111)).setCell ⟨gb461, 1, none⟩ (.slice Ao117 t451.length co117)).setCell ⟨gb461, 2, none⟩ (.int .i64 t454)).setCell ⟨gb461, 3, none⟩ (.int .i64 t455)).setCell ⟨gb461, 4, none⟩ (.int .i64 t456)).setCell ⟨gb461, 5, none⟩ (.int .i64 t457)).setCell ⟨gb461, 6, none⟩ (.slice Ao118 t458.length co118)) w.heap.size (fun k_ => some k_ ≠ (.slice Ao111 t448.length co111 : Value).ownBlock) (.slice Ao117 t451.length co117) t451) := ⟨by (with_reducible repeat (first | apply Kd.R_alloc | apply Kd.R_drewN | apply Kd.R_drew)); exact Kd.R_mono (far7_ (Kd.R_types HO453.out BK461.out (by decide)) gb461 (fun _ hk => hk.2) (.slice Ao111 t448.length co111) (.slice Ao117 t451.length co117) (.int .i64 t454) (.int .i64 t455) (.int .i64 t456) (.int .i64 t457) (.slice Ao118 t458.length co118)) (fun _ hk => hk.1)⟩
    have n2_ : Aside0 (Kd.R k49 49 (((((((w110.setCell ⟨gb461, 0, none⟩ (.slice Ao111 t448.length co111)).setCell ⟨gb461, 1, none⟩ (.slice Ao117 t451.length co117)).setCell ⟨gb461, 2, none⟩ (.int .i64 t454)).setCell ⟨gb461, 3, none⟩ (.int .i64 t455)).setCell ⟨gb461, 4, none⟩ (.int .i64 t456)).setCell ⟨gb461, 5, none⟩ (.int .i64 t457)).setCell ⟨gb461, 6, none⟩ (.slice Ao118 t458.length co118)) w.heap.size (fun _ => True) (.slice Ao118 t458.length co118) t458) := ⟨by (with_reducible repeat (first | apply Kd.R_alloc | apply Kd.R_drewN | apply Kd.R_drew)); exact Kd.R_mono (far7_ (Kd.R_types HO460.out BK461.out (by decide)) gb461 (fun _ hk => hk.2) (.slice Ao111 t448.length co111) (.slice Ao117 t451.length co117) (.int .i64 t454) (.int .i64 t455) (.int .i64 t456) (.int .i64 t457) (.slice Ao118 t458.length co118)) (fun _ hk => trivial)⟩
    have n3_ : Aside0 ((((((((w110.setCell ⟨gb461, 0, none⟩ (.slice Ao111 t448.length co111)).setCell ⟨gb461, 1, none⟩ (.slice Ao117 t451.length co117)).setCell ⟨gb461, 2, none⟩ (.int .i64 t454)).setCell ⟨gb461, 3, none⟩ (.int .i64 t455)).setCell ⟨gb461, 4, none⟩ (.int .i64 t456)).setCell ⟨gb461, 5, none⟩ (.int .i64 t457)).setCell ⟨gb461, 6, none⟩ (.slice Ao118 t458.length co118)).heap[gb443]? = some (.cells #[.slice A1_0 l1_0.length c1_0, .slice A1_1 l1_1.length c1_1, .int .i64 a1_2, .int .i64 a1_3, .int .i64 a1_4, .int .i64 a1_5, .slice A1_6 l1_6.length c1_6] 26 (0, 0))) := ⟨dF7_ BK443 NB443_461⟩
    have n4_ : Aside0 ((((((((w110.setCell ⟨gb461, 0, none⟩ (.slice Ao111 t448.length co111)).setCell ⟨gb461, 1, none⟩ (.slice Ao117 t451.length co117)).setCell ⟨gb461, 2, none⟩ (.int .i64 t454)).setCell ⟨gb461, 3, none⟩ (.int .i64 t455)).setCell ⟨gb461, 4, none⟩ (.int .i64 t456)).setCell ⟨gb461, 5, none⟩ (.int .i64 t457)).setCell ⟨gb461, 6, none⟩ (.slice Ao118 t458.length co118)).heap[gb444]? = some (.cells #[.int .u64 a2_0] 37 (0, 0))) := ⟨dF7_ BK444 NB444_461⟩
    have n5_ : Aside0 ((((((((w110.setCell ⟨gb461, 0, none⟩ (.slice Ao111 t448.length co111)).setCell ⟨gb461, 1, none⟩ (.slice Ao117 t451.length co117)).setCell ⟨gb461, 2, none⟩ (.int .i64 t454)).setCell ⟨gb461, 3, none⟩ (.int .i64 t455)).setCell ⟨gb461, 4, none⟩ (.int .i64 t456)).setCell ⟨gb461, 5, none⟩ (.int .i64 t457)).setCell ⟨gb461, 6, none⟩ (.slice Ao118 t458.length co118)).heap[gb445]? = some (.cells #[.slice none 0 0, .slice none 0 0, .int .i64 0, .int .i64 0, .int .i64 0, .int .i64 0, .slice none 0 0] 26 (0, 0))) := ⟨dF7_ BK445 NB445_461⟩
    have n6_ : Aside0 ((((((((w110.setCell ⟨gb461, 0, none⟩ (.slice Ao111 t448.length co111)).setCell ⟨gb461, 1, none⟩ (.slice Ao117 t451.length co117)).setCell ⟨gb461, 2, none⟩ (.int .i64 t454)).setCell ⟨gb461, 3, none⟩ (.int .i64 t455)).setCell ⟨gb461, 4, none⟩ (.int .i64 t456)).setCell ⟨gb461, 5, none⟩ (.int .i64 t457)).setCell ⟨gb461, 6, none⟩ (.slice Ao118 t458.length co118)).heap[gb446]? = some (.cells #[.int .u64 0] 37 (0, 0))) := ⟨dF7_ BK446 NB446_461⟩
    have n7_ : Aside0 ((((((((w110.setCell ⟨gb461, 0, none⟩ (.slice Ao111 t448.length co111)).setCell ⟨gb461, 1, none⟩ (.slice Ao117 t451.length co117)).setCell ⟨gb461, 2, none⟩ (.int .i64 t454)).setCell ⟨gb461, 3, none⟩ (.int .i64 t455)).setCell ⟨gb461, 4, none⟩ (.int .i64 t456)).setCell ⟨gb461, 5, none⟩ (.int .i64 t457)).setCell ⟨gb461, 6, none⟩ (.slice Ao118 t458.length co118)).heap[gb461]? = some (.cells #[.slice Ao111 t448.length co111, .slice Ao117 t451.length co117, .int .i64 t454, .int .i64 t455, .int .i64 t456, .int .i64 t457, .slice Ao118 t458.length co118] 26 (0, 0))) := ⟨dP7_ BK461⟩
    have n8_ : Aside0 (Below w.heap.size w (((((((w110.setCell ⟨gb461, 0, none⟩ (.slice Ao111 t448.length co111)).setCell ⟨gb461, 1, none⟩ (.slice Ao117 t451.length co117)).setCell ⟨gb461, 2, none⟩ (.int .i64 t454)).setCell ⟨gb461, 3, none⟩ (.int .i64 t455)).setCell ⟨gb461, 4, none⟩ (.int .i64 t456)).setCell ⟨gb461, 5, none⟩ (.int .i64 t457)).setCell ⟨gb461, 6, none⟩ (.slice Ao118 t458.length co118))) := ⟨by repeat (first | (with_reducible first | exact HB.out | apply below_alloc | apply pw_below_drewN | apply below_drew1 | refine below_set ?_ GE443.out | refine below_set ?_ GE444.out | refine below_set ?_ GE445.out | refine below_set ?_ GE446.out | refine below_set ?_ GE461.out) | exact HB.out)⟩
    (try clear HO450)
    (try clear HO453)
    (try clear HO460)
    (try clear BK443)
    (try clear BK444)
    (try clear BK445)
    (try clear BK446)
    (try clear BK461)
    (try clear HB)
    generalize (((((((w110.setCell ⟨gb461, 0, none⟩ (.slice Ao111 t448.length co111)).setCell ⟨gb461, 1, none⟩ (.slice Ao117 t451.length co117)).setCell ⟨gb461, 2, none⟩ (.int .i64 t454)).setCell ⟨gb461, 3, none⟩ (.int .i64 t455)).setCell ⟨gb461, 4, none⟩ (.int .i64 t456)).setCell ⟨gb461, 5, none⟩ (.int .i64 t457)).setCell ⟨gb461, 6, none⟩ (.slice Ao118 t458.length co118)) = w119 at n0_ n1_ n2_ n3_ n4_ n5_ n6_ n7_ n8_ ⊢
    have HO450 := n0_
    have HO453 := n1_
    have HO460 := n2_
    have BK443 := n3_
    have BK444 := n4_
    have BK445 := n5_
    have BK446 := n6_
    have BK461 := n7_
    have HB := n8_
    clear n0_ n1_ n2_ n3_ n4_ n5_ n6_ n7_ n8_
    replace HO450 := Aside0.mk (Kd.R_drew HO450.out)
    replace HO453 := Aside0.mk (Kd.R_drew HO453.out)
    replace HO460 := Aside0.mk (Kd.R_drew HO460.out)
    replace BK443 := Aside0.mk (blk_drew BK443.out)
    replace BK444 := Aside0.mk (blk_drew BK444.out)
    replace BK445 := Aside0.mk (blk_drew BK445.out)
    replace BK446 := Aside0.mk (blk_drew BK446.out)
    replace BK461 := Aside0.mk (blk_drew BK461.out)
    replace HB := Aside0.mk (below_drew1 HB.out)
    refine start_ (n := 12) (S := fun w' => w'.cell? ⟨gb443, 0, none⟩ = some (.slice A1_0 l1_0.length c1_0) ∧ w'.cell? ⟨gb443, 1, none⟩ = some (.slice A1_1 l1_1.length c1_1) ∧ w'.cell? ⟨gb443, 2, none⟩ = some (.int .i64 a1_2) ∧ w'.cell? ⟨gb443, 3, none⟩ = some (.int .i64 a1_3) ∧ w'.cell? ⟨gb443, 4, none⟩ = some (.int .i64 a1_4) ∧ w'.cell? ⟨gb443, 5, none⟩ = some (.int .i64 a1_5) ∧ w'.cell? ⟨gb443, 6, none⟩ = some (.slice A1_6 l1_6.length c1_6)) (ds := []) #[false, false, false, false, false, false, false, false, false, false, false, false] (by kernel_rfl) rfl rfl ⟨(blk_cell BK443.out 0).trans rfl, (blk_cell BK443.out 1).trans rfl, (blk_cell BK443.out 2).trans rfl, (blk_cell BK443.out 3).trans rfl, (blk_cell BK443.out 4).trans rfl, (blk_cell BK443.out 5).trans rfl, (blk_cell BK443.out 6).trans rfl⟩ (fun hHeld => ?_); refine with_tabW fleet_Day.tab5 fleet_Day.bits5 (fun HT_ HW_ => ?_)
    generalize w119.drew = w120 at HO450 HO453 HO460 BK443 BK444 BK445 BK446 BK461 HB hHeld ⊢
    refine pure_ (i := 0) (N := some 23) (v := ?_) (a' := ?_) (bA 1 12) rfl rfl (any_of HT_.out (by kernel_rfl)) (fun _ _ _ h => h) (Or.inl ⟨by rfl, ?_⟩) ?_ ?_; rotate_left; (intro w'; go_simp; with_reducible rfl); rotate_left; (simp only [Act.put, sI_, s0_, sS_, i64_w, i32_w]; rfl)
    refine pure_ (i := 4) (N := some 27) (v := ?_) (a' := ?_) #[true, false, false, false, true, false, false, false, false, false, false, false] rfl rfl (any_of HT_.out (by kernel_rfl)) (fun _ _ _ h => h) (Or.inl ⟨by rfl, ?_⟩) ?_ ?_; rotate_left; (intro w'; go_simp; with_reducible rfl); rotate_left; (simp only [Act.put, sI_, s0_, sS_, i64_w, i32_w]; rfl)
    refine take_ (i := 1) (N := some 24) (v := ?_) (a' := ?_) #[true, true, false, false, true, false, false, false, false, false, false, false] rfl rfl (take_ofW HT_.out HW_.out (by kernel_rfl)) (fun _ _ _ h => h) (Or.inl ⟨by rfl, ?_⟩) hHeld ?_ ?_; rotate_left; (rintro w' ⟨s0, s1, s2, s3, s4, s5, s6⟩; go_simp; with_reducible rfl); rotate_left; (simp only [Act.put, sI_, s0_, sS_, i64_w, i32_w]; rfl)
    refine pure_ (i := 2) (N := some 25) (v := ?_) (a' := ?_) #[true, true, true, false, true, false, false, false, false, false, false, false] rfl rfl (any_of HT_.out (by kernel_rfl)) (fun _ _ _ h => h) (Or.inl ⟨by rfl, ?_⟩) ?_ ?_; rotate_left; (intro w'; go_simp; with_reducible rfl); rotate_left; (simp only [Act.put, sI_, s0_, sS_, i64_w, i32_w]; rfl)
    refine pure_ (i := 3) (N := some 26) (v := ?_) (a' := ?_) (bA 5 12) rfl rfl (any_of HT_.out (by kernel_rfl)) (fun _ _ _ h => h) (Or.inl ⟨by rfl, ?_⟩) ?_ ?_; rotate_left; (intro w'; go_simp; with_reducible rfl); rotate_left; (simp only [Act.put, sI_, s0_, sS_, i64_w, i32_w]; rfl)
    refine pure_ (i := 8) (N := some 31) (v := ?_) (a' := ?_) #[true, true, true, true, true, false, false, false, true, false, false, false] rfl rfl (any_of HT_.out (by kernel_rfl)) (fun _ _ _ h => h) (Or.inl ⟨by rfl, ?_⟩) ?_ ?_; rotate_left; (intro w'; go_simp; with_reducible rfl); rotate_left; (simp only [Act.put, sI_, s0_, sS_, i64_w, i32_w]; rfl)
    refine take_ (i := 5) (N := some 28) (v := ?_) (a' := ?_) #[true, true, true, true, true, true, false, false, true, false, false, false] rfl rfl (take_ofW HT_.out HW_.out (by kernel_rfl)) (fun _ _ _ h => h) (Or.inl ⟨by rfl, ?_⟩) hHeld ?_ ?_; rotate_left; (rintro w' ⟨s0, s1, s2, s3, s4, s5, s6⟩; go_simp; with_reducible rfl); rotate_left; (simp only [Act.put, sI_, s0_, sS_, i64_w, i32_w]; rfl)
    refine pure_ (i := 6) (N := some 29) (v := ?_) (a' := ?_) #[true, true, true, true, true, true, true, false, true, false, false, false] rfl rfl (any_of HT_.out (by kernel_rfl)) (fun _ _ _ h => h) (Or.inl ⟨by rfl, ?_⟩) ?_ ?_; rotate_left; (intro w'; go_simp; with_reducible rfl); rotate_left; (simp only [Act.put, sI_, s0_, sS_, i64_w, i32_w]; rfl)
    refine pure_ (i := 7) (N := some 30) (v := ?_) (a' := ?_) (bA 9 12) rfl rfl (any_of HT_.out (by kernel_rfl)) (fun _ _ _ h => h) (Or.inl ⟨by rfl, ?_⟩) ?_ ?_; rotate_left; (intro w'; go_simp; with_reducible rfl); rotate_left; (simp only [Act.put, sI_, s0_, sS_, i64_w, i32_w]; rfl)
    refine one_ (i := 9) (N := none) (bA 10 12) rfl rfl (one_of HT_.out (by kernel_rfl)) (by decide) (fun K hK => ?_)
    have hs121 : w120.cell? ⟨gb461, 2, none⟩ = some (.int .i64 t454) := (blk_cell BK461.out 2).trans rfl
    have hfs121 := blk_frozen BK461.out 2
    have hns121_0 := NB443_461.out
    have hns121_1 := NB444_461.out
    have hns121_2 := NB445_461.out
    have hns121_3 := NB446_461.out
    have hms121_0 := NB461_443.out
    have hms121_1 := NB461_444.out
    have hms121_2 := NB461_445.out
    have hms121_3 := NB461_446.out
    refine skip_ (w1 := ?_) (by rfl) rfl ?_ ?_
    rotate_left
    ·go_simp
     rfl
    refine hK.out _ _ ⟨((cell_far (p := ⟨gb461, _, none⟩) NB443_461.out _).trans (hHeld.1)), ((cell_far (p := ⟨gb461, _, none⟩) NB443_461.out _).trans (hHeld.2.1)), ((cell_far (p := ⟨gb461, _, none⟩) NB443_461.out _).trans (hHeld.2.2.1)), ((cell_far (p := ⟨gb461, _, none⟩) NB443_461.out _).trans (hHeld.2.2.2.1)), ((cell_far (p := ⟨gb461, _, none⟩) NB443_461.out _).trans (hHeld.2.2.2.2.1)), ((cell_far (p := ⟨gb461, _, none⟩) NB443_461.out _).trans (hHeld.2.2.2.2.2.1)), ((cell_far (p := ⟨gb461, _, none⟩) NB443_461.out _).trans (hHeld.2.2.2.2.2.2))⟩ (fun hHeld => ?_)
    clear hK K
    refine pure_ (i := 10) (N := some 32) (v := ?_) (a' := ?_) (bA 11 12) rfl rfl (any_of HT_.out (by kernel_rfl)) (fun _ _ _ h => h) (Or.inl ⟨by rfl, ?_⟩) ?_ ?_; rotate_left; (intro w'; go_simp; with_reducible rfl); rotate_left; (simp only [Act.put, sI_, s0_, sS_, i64_w, i32_w]; rfl)
    refine one_ (i := 11) (N := none) (bA 12 12) rfl rfl (one_of HT_.out (by kernel_rfl)) (by decide) (fun K hK => ?_)
    have hs122 : w120.cell? ⟨gb461, 3, none⟩ = some (.int .i64 t455) := (blk_cell BK461.out 3).trans rfl
    have hfs122 := blk_frozen BK461.out 3
    have hns122_0 := NB443_461.out
    have hns122_1 := NB444_461.out
    have hns122_2 := NB445_461.out
    have hns122_3 := NB446_461.out
    have hms122_0 := NB461_443.out
    have hms122_1 := NB461_444.out
    have hms122_2 := NB461_445.out
    have hms122_3 := NB461_446.out
    refine skip_ (w1 := ?_) (by rfl) rfl ?_ ?_
    rotate_left
    ·go_simp
     rfl
    refine hK.out _ _ ⟨((cell_far (p := ⟨gb461, _, none⟩) NB443_461.out _).trans (hHeld.1)), ((cell_far (p := ⟨gb461, _, none⟩) NB443_461.out _).trans (hHeld.2.1)), ((cell_far (p := ⟨gb461, _, none⟩) NB443_461.out _).trans (hHeld.2.2.1)), ((cell_far (p := ⟨gb461, _, none⟩) NB443_461.out _).trans (hHeld.2.2.2.1)), ((cell_far (p := ⟨gb461, _, none⟩) NB443_461.out _).trans (hHeld.2.2.2.2.1)), ((cell_far (p := ⟨gb461, _, none⟩) NB443_461.out _).trans (hHeld.2.2.2.2.2.1)), ((cell_far (p := ⟨gb461, _, none⟩) NB443_461.out _).trans (hHeld.2.2.2.2.2.2))⟩ (fun hHeld => ?_)
    clear hK K
    refine done_ (done_of HT_.out (by kernel_rfl)) ?_
    try go_wp2
    have n0_ : Aside0 (Kd.R (Kd.int .i64) 3 ((w120.setCell ⟨gb461, 2, none⟩ (.int .i64 ji7)).setCell ⟨gb461, 3, none⟩ (.int .i64 ji8)) w.heap.size (fun k_ => some k_ ≠ (.slice Ao117 t451.length co117 : Value).ownBlock) (.slice Ao111 t448.length co111) t448) := ⟨by (with_reducible repeat (first | apply Kd.R_alloc | apply Kd.R_drewN | apply Kd.R_drew)); exact Kd.R_mono (Kd.R_far (p := ⟨gb461, 3, none⟩) (Kd.R_far (p := ⟨gb461, 2, none⟩) (Kd.R_types HO450.out BK461.out (by decide)) (fun _ hk => hk.2) (.int .i64 ji7)) (fun _ hk => hk.2) (.int .i64 ji8)) (fun _ hk => hk.1)⟩
    have n1_ : Aside0 (Kd.R (Kd.int .i64) 3 ((w120.setCell ⟨gb461, 2, none⟩ (.int .i64 ji7)).setCell ⟨gb461, 3, none⟩ (.int .i64 ji8)) w.heap.size (fun k_ => some k_ ≠ (.slice Ao111 t448.length co111 : Value).ownBlock) (.slice Ao117 t451.length co117) t451) := ⟨by (with_reducible repeat (first | apply Kd.R_alloc | apply Kd.R_drewN | apply Kd.R_drew)); exact Kd.R_mono (Kd.R_far (p := ⟨gb461, 3, none⟩) (Kd.R_far (p := ⟨gb461, 2, none⟩) (Kd.R_types HO453.out BK461.out (by decide)) (fun _ hk => hk.2) (.int .i64 ji7)) (fun _ hk => hk.2) (.int .i64 ji8)) (fun _ hk => hk.1)⟩
    have n2_ : Aside0 (Kd.R k49 49 ((w120.setCell ⟨gb461, 2, none⟩ (.int .i64 ji7)).setCell ⟨gb461, 3, none⟩ (.int .i64 ji8)) w.heap.size (fun _ => True) (.slice Ao118 t458.length co118) t458) := ⟨by (with_reducible repeat (first | apply Kd.R_alloc | apply Kd.R_drewN | apply Kd.R_drew)); exact Kd.R_mono (Kd.R_far (p := ⟨gb461, 3, none⟩) (Kd.R_far (p := ⟨gb461, 2, none⟩) (Kd.R_types HO460.out BK461.out (by decide)) (fun _ hk => hk.2) (.int .i64 ji7)) (fun _ hk => hk.2) (.int .i64 ji8)) (fun _ hk => trivial)⟩
    have n3_ : Aside0 (((w120.setCell ⟨gb461, 2, none⟩ (.int .i64 ji7)).setCell ⟨gb461, 3, none⟩ (.int .i64 ji8)).heap[gb443]? = some (.cells #[.slice A1_0 l1_0.length c1_0, .slice A1_1 l1_1.length c1_1, .int .i64 a1_2, .int .i64 a1_3, .int .i64 a1_4, .int .i64 a1_5, .slice A1_6 l1_6.length c1_6] 26 (0, 0))) := ⟨by (with_reducible repeat (first | refine blk_drewN ?_ _ | refine blk_drew ?_ | refine blk_alloc ?_ _)); refine blk_far ?_ NB443_461.out _; (with_reducible repeat (first | refine blk_drewN ?_ _ | refine blk_drew ?_ | refine blk_alloc ?_ _)); refine blk_far ?_ NB443_461.out _; (with_reducible repeat (first | refine blk_drewN ?_ _ | refine blk_drew ?_ | refine blk_alloc ?_ _)); exact BK443.out⟩
    have n4_ : Aside0 (((w120.setCell ⟨gb461, 2, none⟩ (.int .i64 ji7)).setCell ⟨gb461, 3, none⟩ (.int .i64 ji8)).heap[gb444]? = some (.cells #[.int .u64 a2_0] 37 (0, 0))) := ⟨by (with_reducible repeat (first | refine blk_drewN ?_ _ | refine blk_drew ?_ | refine blk_alloc ?_ _)); refine blk_far ?_ NB444_461.out _; (with_reducible repeat (first | refine blk_drewN ?_ _ | refine blk_drew ?_ | refine blk_alloc ?_ _)); refine blk_far ?_ NB444_461.out _; (with_reducible repeat (first | refine blk_drewN ?_ _ | refine blk_drew ?_ | refine blk_alloc ?_ _)); exact BK444.out⟩
    have n5_ : Aside0 (((w120.setCell ⟨gb461, 2, none⟩ (.int .i64 ji7)).setCell ⟨gb461, 3, none⟩ (.int .i64 ji8)).heap[gb445]? = some (.cells #[.slice none 0 0, .slice none 0 0, .int .i64 0, .int .i64 0, .int .i64 0, .int .i64 0, .slice none 0 0] 26 (0, 0))) := ⟨by (with_reducible repeat (first | refine blk_drewN ?_ _ | refine blk_drew ?_ | refine blk_alloc ?_ _)); refine blk_far ?_ NB445_461.out _; (with_reducible repeat (first | refine blk_drewN ?_ _ | refine blk_drew ?_ | refine blk_alloc ?_ _)); refine blk_far ?_ NB445_461.out _; (with_reducible repeat (first | refine blk_drewN ?_ _ | refine blk_drew ?_ | refine blk_alloc ?_ _)); exact BK445.out⟩
    have n6_ : Aside0 (((w120.setCell ⟨gb461, 2, none⟩ (.int .i64 ji7)).setCell ⟨gb461, 3, none⟩ (.int .i64 ji8)).heap[gb446]? = some (.cells #[.int .u64 0] 37 (0, 0))) := ⟨by (with_reducible repeat (first | refine blk_drewN ?_ _ | refine blk_drew ?_ | refine blk_alloc ?_ _)); refine blk_far ?_ NB446_461.out _; (with_reducible repeat (first | refine blk_drewN ?_ _ | refine blk_drew ?_ | refine blk_alloc ?_ _)); refine blk_far ?_ NB446_461.out _; (with_reducible repeat (first | refine blk_drewN ?_ _ | refine blk_drew ?_ | refine blk_alloc ?_ _)); exact BK446.out⟩
    have n7_ : Aside0 (((w120.setCell ⟨gb461, 2, none⟩ (.int .i64 ji7)).setCell ⟨gb461, 3, none⟩ (.int .i64 ji8)).heap[gb461]? = some (.cells #[.slice Ao111 t448.length co111, .slice Ao117 t451.length co117, .int .i64 ji7, .int .i64 ji8, .int .i64 t456, .int .i64 t457, .slice Ao118 t458.length co118] 26 (0, 0))) := ⟨by (with_reducible repeat (first | refine blk_drewN ?_ _ | refine blk_drew ?_ | refine blk_alloc ?_ _)); refine blk_put (cs := #[.slice Ao111 t448.length co111, .slice Ao117 t451.length co117, .int .i64 ji7, .int .i64 t455, .int .i64 t456, .int .i64 t457, .slice Ao118 t458.length co118]) ?_ 3 _ rfl; (with_reducible repeat (first | refine blk_drewN ?_ _ | refine blk_drew ?_ | refine blk_alloc ?_ _)); refine blk_put (cs := #[.slice Ao111 t448.length co111, .slice Ao117 t451.length co117, .int .i64 t454, .int .i64 t455, .int .i64 t456, .int .i64 t457, .slice Ao118 t458.length co118]) ?_ 2 _ rfl; (with_reducible repeat (first | refine blk_drewN ?_ _ | refine blk_drew ?_ | refine blk_alloc ?_ _)); exact BK461.out⟩
    have n8_ : Aside0 (Below w.heap.size w ((w120.setCell ⟨gb461, 2, none⟩ (.int .i64 ji7)).setCell ⟨gb461, 3, none⟩ (.int .i64 ji8))) := ⟨by repeat (first | (with_reducible first | exact HB.out | apply below_alloc | apply pw_below_drewN | apply below_drew1 | refine below_set ?_ GE443.out | refine below_set ?_ GE444.out | refine below_set ?_ GE445.out | refine below_set ?_ GE446.out | refine below_set ?_ GE461.out) | exact HB.out)⟩
    (try clear HO450)
    (try clear HO453)
    (try clear HO460)
    (try clear BK443)
    (try clear BK444)
    (try clear BK445)
    (try clear BK446)
    (try clear BK461)
    (try clear HB)
    generalize ((w120.setCell ⟨gb461, 2, none⟩ (.int .i64 ji7)).setCell ⟨gb461, 3, none⟩ (.int .i64 ji8)) = w123 at n0_ n1_ n2_ n3_ n4_ n5_ n6_ n7_ n8_ ⊢
    have HO450 := n0_
    have HO453 := n1_
    have HO460 := n2_
    have BK443 := n3_
    have BK444 := n4_
    have BK445 := n5_
    have BK446 := n6_
    have BK461 := n7_
    have HB := n8_
    clear n0_ n1_ n2_ n3_ n4_ n5_ n6_ n7_ n8_
    replace HO450 := Aside0.mk (Kd.R_drew HO450.out)
    replace HO453 := Aside0.mk (Kd.R_drew HO453.out)
    replace HO460 := Aside0.mk (Kd.R_drew HO460.out)
    replace BK443 := Aside0.mk (blk_drew BK443.out)
    replace BK444 := Aside0.mk (blk_drew BK444.out)
    replace BK445 := Aside0.mk (blk_drew BK445.out)
    replace BK446 := Aside0.mk (blk_drew BK446.out)
    replace BK461 := Aside0.mk (blk_drew BK461.out)
    replace HB := Aside0.mk (below_drew1 HB.out)
    refine start_ (n := 10) (S := fun w' => w'.cell? ⟨gb443, 0, none⟩ = some (.slice A1_0 l1_0.length c1_0) ∧ w'.cell? ⟨gb443, 1, none⟩ = some (.slice A1_1 l1_1.length c1_1) ∧ w'.cell? ⟨gb443, 2, none⟩ = some (.int .i64 a1_2) ∧ w'.cell? ⟨gb443, 3, none⟩ = some (.int .i64 a1_3) ∧ w'.cell? ⟨gb443, 4, none⟩ = some (.int .i64 a1_4) ∧ w'.cell? ⟨gb443, 5, none⟩ = some (.int .i64 a1_5) ∧ w'.cell? ⟨gb443, 6, none⟩ = some (.slice A1_6 l1_6.length c1_6) ∧ w'.cell? ⟨gb461, 0, none⟩ = some (.slice Ao111 t448.length co111) ∧ w'.cell? ⟨gb461, 1, none⟩ = some (.slice Ao117 t451.length co117) ∧ w'.cell? ⟨gb461, 2, none⟩ = some (.int .i64 ji7) ∧ w'.cell? ⟨gb461, 3, none⟩ = some (.int .i64 ji8) ∧ w'.cell? ⟨gb461, 4, none⟩ = some (.int .i64 t456) ∧ w'.cell? ⟨gb461, 5, none⟩ = some (.int .i64 t457) ∧ w'.cell? ⟨gb461, 6, none⟩ = some (.slice Ao118 t458.length co118)) (ds := [9]) #[false, false, false, false, false, false, false, false, false, false] (by kernel_rfl) rfl rfl ⟨(blk_cell BK443.out 0).trans rfl, (blk_cell BK443.out 1).trans rfl, (blk_cell BK443.out 2).trans rfl, (blk_cell BK443.out 3).trans rfl, (blk_cell BK443.out 4).trans rfl, (blk_cell BK443.out 5).trans rfl, (blk_cell BK443.out 6).trans rfl, (blk_cell BK461.out 0).trans rfl, (blk_cell BK461.out 1).trans rfl, (blk_cell BK461.out 2).trans rfl, (blk_cell BK461.out 3).trans rfl, (blk_cell BK461.out 4).trans rfl, (blk_cell BK461.out 5).trans rfl, (blk_cell BK461.out 6).trans rfl⟩ (fun hHeld => ?_); refine with_tabW fleet_Day.tab6 fleet_Day.bits6 (fun HT_ HW_ => ?_)
    generalize w123.drew = w124 at HO450 HO453 HO460 BK443 BK444 BK445 BK446 BK461 HB hHeld ⊢
    refine pure_ (i := 0) (N := some 33) (v := ?_) (a' := ?_) (bA 1 10) rfl rfl (any_of HT_.out (by kernel_rfl)) (fun _ _ _ h => h) (Or.inl ⟨by rfl, ?_⟩) ?_ ?_; rotate_left; (intro w'; go_simp; with_reducible rfl); rotate_left; (simp only [Act.put, sI_, s0_, sS_, i64_w, i32_w]; rfl)
    refine pure_ (i := 3) (N := some 36) (v := ?_) (a' := ?_) #[true, false, false, true, false, false, false, false, false, false] rfl rfl (any_of HT_.out (by kernel_rfl)) (fun _ _ _ h => h) (Or.inl ⟨by rfl, ?_⟩) ?_ ?_; rotate_left; (intro w'; go_simp; with_reducible rfl); rotate_left; (simp only [Act.put, sI_, s0_, sS_, i64_w, i32_w]; rfl)
    refine take_ (i := 1) (N := some 34) (v := ?_) (a' := ?_) #[true, true, false, true, false, false, false, false, false, false] rfl rfl (take_ofW HT_.out HW_.out (by kernel_rfl)) (fun _ _ _ h => h) (Or.inl ⟨by rfl, ?_⟩) hHeld ?_ ?_; rotate_left; (rintro w' ⟨s0, s1, s2, s3, s4, s5, s6, s7, s8, s9, s10, s11, s12, s13⟩; go_simp; with_reducible rfl); rotate_left; (simp only [Act.put, sI_, s0_, sS_, i64_w, i32_w]; rfl)
    refine pure_ (i := 2) (N := some 35) (v := ?_) (a' := ?_) (bA 4 10) rfl rfl (any_of HT_.out (by kernel_rfl)) (fun _ _ _ h => h) (Or.inl ⟨by rfl, ?_⟩) ?_ ?_; rotate_left; (intro w'; go_simp; with_reducible rfl); rotate_left; (simp only [Act.put, sI_, s0_, sS_, i64_w, i32_w]; rfl)
    refine take_ (i := 4) (N := some 37) (v := ?_) (a' := ?_) (bA 5 10) rfl rfl (take_ofW HT_.out HW_.out (by kernel_rfl)) (fun _ _ _ h => h) (Or.inl ⟨by rfl, ?_⟩) hHeld ?_ ?_; rotate_left; (rintro w' ⟨s0, s1, s2, s3, s4, s5, s6, s7, s8, s9, s10, s11, s12, s13⟩; go_simp; with_reducible rfl); rotate_left; (simp only [Act.put, sI_, s0_, sS_, i64_w, i32_w]; rfl)
    refine one_ (i := 5) (N := some 38) (bA 6 10) rfl rfl (one_of HT_.out (by kernel_rfl)) (by decide) (fun K hK => ?_)
    refine goes_ Try.func30 (by kernel_rfl) rfl #[.slice A0 l0.length c0, .agg #[.slice Ao111 t448.length co111, .slice Ao117 t451.length co117, .int .i64 ji7, .int .i64 ji8, .int .i64 t456, .int .i64 t457, .slice Ao118 t458.length co118]] (by rfl) rfl rfl (by (try simp only [List.map_toArray, List.map_cons, List.map_nil]); first | done | (simp only [hji7, hji8]; rfl) | rfl | (simp only [List.length_drop, List.length_take]; rfl)) ?_
    with_reducible refine (fleet_spans.calls k _ _ l0 _ _ t448 _ _ t451 ji7 ji8 t456 t457 _ _ t458 t462 _ ?side1 ?side2 ?side3 ?side4 ?side5 ?side6 ?side7 ?side8 A9.out).mono ?_
    (case side1 => exact dC_ HR0 HB)
    (case side2 => exact HC0.out)
    (case side3 => repeat (first | exact (Kd.R_reads' HO450.out).2.2 | (with_reducible refine Kd.C_alloc ?_ _) | (with_reducible refine Kd.C_drewN ?_ _) | (with_reducible refine Kd.C_drew ?_)))
    (case side4 => exact (Kd.R_reads' HO450.out).2.1)
    (case side5 => repeat (first | exact (Kd.R_reads' HO453.out).2.2 | (with_reducible refine Kd.C_alloc ?_ _) | (with_reducible refine Kd.C_drewN ?_ _) | (with_reducible refine Kd.C_drew ?_)))
    (case side6 => exact (Kd.R_reads' HO453.out).2.1)
    (case side7 => repeat (first | exact (Kd.R_reads' HO460.out).2.2 | (with_reducible refine Kd.C_alloc ?_ _) | (with_reducible refine Kd.C_drewN ?_ _) | (with_reducible refine Kd.C_drew ?_)))
    (case side8 => exact (Kd.R_reads' HO460.out).2.1)
    rintro e w125 ⟨rfl, hb⟩
    refine ⟨_, rfl, ?_⟩
    replace HO450 := Aside0.mk (Kd.R_below (dR_ HO450) hb)
    replace HO453 := Aside0.mk (Kd.R_below (dR_ HO453) hb)
    replace HO460 := Aside0.mk (Kd.R_below (dR_ HO460) hb)
    replace BK443 := Aside0.mk (blk_below (g := gb443) (o := .cells #[.slice A1_0 l1_0.length c1_0, .slice A1_1 l1_1.length c1_1, .int .i64 a1_2, .int .i64 a1_3, .int .i64 a1_4, .int .i64 a1_5, .slice A1_6 l1_6.length c1_6] 26 (0, 0)) (dB_ BK443) hb)
    replace BK444 := Aside0.mk (blk_below (g := gb444) (o := .cells #[.int .u64 a2_0] 37 (0, 0)) (dB_ BK444) hb)
    replace BK445 := Aside0.mk (blk_below (g := gb445) (o := .cells #[.slice none 0 0, .slice none 0 0, .int .i64 0, .int .i64 0, .int .i64 0, .int .i64 0, .slice none 0 0] 26 (0, 0)) (dB_ BK445) hb)
    replace BK446 := Aside0.mk (blk_below (g := gb446) (o := .cells #[.int .u64 0] 37 (0, 0)) (dB_ BK446) hb)
    replace BK461 := Aside0.mk (blk_below (g := gb461) (o := .cells #[.slice Ao111 t448.length co111, .slice Ao117 t451.length co117, .int .i64 ji7, .int .i64 ji8, .int .i64 t456, .int .i64 t457, .slice Ao118 t458.length co118] 26 (0, 0)) (dB_ BK461) hb)
    replace HB := Aside0.mk (below_step (by repeat (first | (with_reducible first | exact HB.out | apply below_alloc | apply pw_below_drewN | apply below_drew1 | refine below_set ?_ GE443.out | refine below_set ?_ GE444.out | refine below_set ?_ GE445.out | refine below_set ?_ GE446.out | refine below_set ?_ GE461.out) | exact HB.out)) hb)
    (try clear hb)
    (try clear hb2)
    (try clear hk)
    (try clear hi)
    refine hK.out _ _ ⟨(blk_cell BK443.out 0).trans rfl, (blk_cell BK443.out 1).trans rfl, (blk_cell BK443.out 2).trans rfl, (blk_cell BK443.out 3).trans rfl, (blk_cell BK443.out 4).trans rfl, (blk_cell BK443.out 5).trans rfl, (blk_cell BK443.out 6).trans rfl, (blk_cell BK461.out 0).trans rfl, (blk_cell BK461.out 1).trans rfl, (blk_cell BK461.out 2).trans rfl, (blk_cell BK461.out 3).trans rfl, (blk_cell BK461.out 4).trans rfl, (blk_cell BK461.out 5).trans rfl, (blk_cell BK461.out 6).trans rfl⟩ (fun hHeld => ?_)
    clear hK K
    refine norm_ (a' := ?_) ?_ ?_
    rotate_left
    ·show Act.put _ (some 38) _ = _
     simp only [Act.put, sI_, s0_, sS_, i64_w, i32_w]
     rfl
    refine pure_ (i := 6) (N := some 39) (v := ?_) (a' := ?_) (bA 7 10) rfl rfl (any_of HT_.out (by kernel_rfl)) (fun _ _ _ h => h) (Or.inl ⟨by rfl, ?_⟩) ?_ ?_; rotate_left; (intro w'; go_simp; with_reducible rfl); rotate_left; (simp only [Act.put, sI_, s0_, sS_, i64_w, i32_w]; rfl)
    refine pure_ (i := 7) (N := some 40) (v := ?_) (a' := ?_) (bA 8 10) rfl rfl (any_of HT_.out (by kernel_rfl)) (fun _ _ _ h => h) (Or.inl ⟨by rfl, ?_⟩) ?_ ?_; rotate_left; (intro w'; go_simp; with_reducible rfl); rotate_left; (simp only [Act.put, sI_, s0_, sS_, i64_w, i32_w]; rfl)
    refine pure_ (i := 8) (N := some 41) (v := ?_) (a' := ?_) (bA 9 10) rfl rfl (any_of HT_.out (by kernel_rfl)) (fun _ _ _ h => h) (Or.inl ⟨by rfl, ?_⟩) ?_ ?_; rotate_left; (intro w'; go_simp; with_reducible rfl); rotate_left; (simp only [Act.put, sI_, s0_, sS_, i64_w, i32_w]; rfl)
    refine last_ (i := 9) (N := none) #[true, true, true, true, true, true, true, true, true, true] rfl rfl (one_of HT_.out (by kernel_rfl)) (by decide) (fun K hK => ?_)
    have hs126 : w125.cell? ⟨gb461, 4, none⟩ = some (.int .i64 t456) := (blk_cell BK461.out 4).trans rfl
    have hfs126 := blk_frozen BK461.out 4
    have hns126_0 := NB443_461.out
    have hns126_1 := NB444_461.out
    have hns126_2 := NB445_461.out
    have hns126_3 := NB446_461.out
    have hms126_0 := NB461_443.out
    have hms126_1 := NB461_444.out
    have hms126_2 := NB461_445.out
    have hms126_3 := NB461_446.out
    refine skip_ (w1 := ?_) (by rfl) rfl ?_ ?_
    rotate_left
    ·go_simp
     rfl
    refine hK.out _ _ ?_
    clear hK K
    refine done_ (done_of HT_.out (by kernel_rfl)) ?_
    obtain ⟨hcz127_0, hcz127_1, hcz127_2, hcz127_3, hcz127_4, hcz127_5, hcz127_6, hfz127_0, hfz127_1, hfz127_2, hfz127_3, hfz127_4, hfz127_5, hfz127_6⟩ := cs7_ BK443.out
    have hnb128 := NB444_445.out
    have hnc128 := NB445_444.out
    have hnb129 := NB444_446.out
    have hnc129 := NB446_444.out
    have hcz130_0 : w125.cell? ⟨gb444, 0, none⟩ = some (.int .u64 a2_0) := (blk_cell BK444.out 0).trans rfl
    have hfz130_0 := blk_frozen BK444.out 0
    obtain ⟨hcz131_0, hcz131_1, hcz131_2, hcz131_3, hcz131_4, hcz131_5, hcz131_6, hfz131_0, hfz131_1, hfz131_2, hfz131_3, hfz131_4, hfz131_5, hfz131_6⟩ := cs7_ BK461.out
    try go_wp2_with (first | ((with_reducible refine gate_callee (f := 31) rfl ?_); refine goesL_ (some 52) rfl rfl Try.func31 (by kernel_rfl) rfl #[.agg #[.int .u64 a2_0], .int .i64 (wrap64 (1000 - (ji10))), .int .i64 20000] rfl (by (try simp only [List.map_toArray, List.map_cons, List.map_nil]); first | done | (simp only [hji10]; rfl) | rfl | (simp only [List.length_drop, List.length_take]; rfl)) ?_; (with_reducible refine (roll_Chance.calls k a2_0 (wrap64 (1000 - (ji10))) 20000 false t464 _ A51.out).mono ?_); rintro e w132 ⟨rfl, hb⟩; refine ⟨_, rfl, ?_⟩; replace HO450 := Aside0.mk (Kd.R_below (by (with_reducible repeat (first | apply Kd.R_alloc | apply Kd.R_drewN | apply Kd.R_drew)); exact (Kd.R_mono (Kd.R_far (p := ⟨gb461, 4, none⟩) (Kd.R_types HO450.out BK461.out (by decide)) (fun _ hk => hk.2) (.int .i64 ji10)) (fun _ h_ => h_.1))) hb); replace HO453 := Aside0.mk (Kd.R_below (by (with_reducible repeat (first | apply Kd.R_alloc | apply Kd.R_drewN | apply Kd.R_drew)); exact (Kd.R_mono (Kd.R_far (p := ⟨gb461, 4, none⟩) (Kd.R_types HO453.out BK461.out (by decide)) (fun _ hk => hk.2) (.int .i64 ji10)) (fun _ h_ => h_.1))) hb); replace HO460 := Aside0.mk (Kd.R_below (by (with_reducible repeat (first | apply Kd.R_alloc | apply Kd.R_drewN | apply Kd.R_drew)); exact (Kd.R_mono (Kd.R_far (p := ⟨gb461, 4, none⟩) (Kd.R_types HO460.out BK461.out (by decide)) (fun _ hk => hk.2) (.int .i64 ji10)) (fun _ h_ => h_.1))) hb); replace BK443 := Aside0.mk (blk_below (g := gb443) (o := .cells #[.slice A1_0 l1_0.length c1_0, .slice A1_1 l1_1.length c1_1, .int .i64 a1_2, .int .i64 a1_3, .int .i64 a1_4, .int .i64 a1_5, .slice A1_6 l1_6.length c1_6] 26 (0, 0)) (by (with_reducible repeat (first | refine blk_drewN ?_ _ | refine blk_drew ?_ | refine blk_alloc ?_ _)); refine blk_far ?_ NB443_461.out _; (with_reducible repeat (first | refine blk_drewN ?_ _ | refine blk_drew ?_ | refine blk_alloc ?_ _)); exact BK443.out) hb); replace BK444 := Aside0.mk (blk_below (g := gb444) (o := .cells #[.int .u64 a2_0] 37 (0, 0)) (by (with_reducible repeat (first | refine blk_drewN ?_ _ | refine blk_drew ?_ | refine blk_alloc ?_ _)); refine blk_far ?_ NB444_461.out _; (with_reducible repeat (first | refine blk_drewN ?_ _ | refine blk_drew ?_ | refine blk_alloc ?_ _)); exact BK444.out) hb); replace BK445 := Aside0.mk (blk_below (g := gb445) (o := .cells #[.slice none 0 0, .slice none 0 0, .int .i64 0, .int .i64 0, .int .i64 0, .int .i64 0, .slice none 0 0] 26 (0, 0)) (by (with_reducible repeat (first | refine blk_drewN ?_ _ | refine blk_drew ?_ | refine blk_alloc ?_ _)); refine blk_far ?_ NB445_461.out _; (with_reducible repeat (first | refine blk_drewN ?_ _ | refine blk_drew ?_ | refine blk_alloc ?_ _)); exact BK445.out) hb); replace BK446 := Aside0.mk (blk_below (g := gb446) (o := .cells #[.int .u64 0] 37 (0, 0)) (by (with_reducible repeat (first | refine blk_drewN ?_ _ | refine blk_drew ?_ | refine blk_alloc ?_ _)); refine blk_far ?_ NB446_461.out _; (with_reducible repeat (first | refine blk_drewN ?_ _ | refine blk_drew ?_ | refine blk_alloc ?_ _)); exact BK446.out) hb); replace BK461 := Aside0.mk (blk_below (g := gb461) (o := .cells #[.slice Ao111 t448.length co111, .slice Ao117 t451.length co117, .int .i64 ji7, .int .i64 ji8, .int .i64 ji10, .int .i64 t457, .slice Ao118 t458.length co118] 26 (0, 0)) (by (with_reducible repeat (first | refine blk_drewN ?_ _ | refine blk_drew ?_ | refine blk_alloc ?_ _)); refine blk_put (cs := #[.slice Ao111 t448.length co111, .slice Ao117 t451.length co117, .int .i64 ji7, .int .i64 ji8, .int .i64 t456, .int .i64 t457, .slice Ao118 t458.length co118]) ?_ 4 _ rfl; (with_reducible repeat (first | refine blk_drewN ?_ _ | refine blk_drew ?_ | refine blk_alloc ?_ _)); exact BK461.out) hb); replace HB := Aside0.mk (below_step (by repeat (first | (with_reducible first | exact HB.out | apply below_alloc | apply pw_below_drewN | apply below_drew1 | refine below_set ?_ GE443.out | refine below_set ?_ GE444.out | refine below_set ?_ GE445.out | refine below_set ?_ GE446.out | refine below_set ?_ GE461.out) | exact HB.out)) hb); have hcz133_0 : w132.cell? ⟨gb444, 0, none⟩ = some (.int .u64 a2_0) := (blk_cell BK444.out 0).trans rfl; have hfz133_0 := blk_frozen BK444.out 0))
    have n0_ : Aside0 (Kd.R (Kd.int .i64) 3 (w132.setCell ⟨gb444, 0, none⟩ (.int .u64 t464)) w.heap.size (fun k_ => some k_ ≠ (.slice Ao117 t451.length co117 : Value).ownBlock) (.slice Ao111 t448.length co111) t448) := ⟨by (with_reducible repeat (first | apply Kd.R_alloc | apply Kd.R_drewN | apply Kd.R_drew)); exact Kd.R_mono (Kd.R_far (p := ⟨gb444, 0, none⟩) (Kd.R_types HO450.out BK444.out (by decide)) (fun _ hk => hk.2) (.int .u64 t464)) (fun _ hk => hk.1)⟩
    have n1_ : Aside0 (Kd.R (Kd.int .i64) 3 (w132.setCell ⟨gb444, 0, none⟩ (.int .u64 t464)) w.heap.size (fun k_ => some k_ ≠ (.slice Ao111 t448.length co111 : Value).ownBlock) (.slice Ao117 t451.length co117) t451) := ⟨by (with_reducible repeat (first | apply Kd.R_alloc | apply Kd.R_drewN | apply Kd.R_drew)); exact Kd.R_mono (Kd.R_far (p := ⟨gb444, 0, none⟩) (Kd.R_types HO453.out BK444.out (by decide)) (fun _ hk => hk.2) (.int .u64 t464)) (fun _ hk => hk.1)⟩
    have n2_ : Aside0 (Kd.R k49 49 (w132.setCell ⟨gb444, 0, none⟩ (.int .u64 t464)) w.heap.size (fun _ => True) (.slice Ao118 t458.length co118) t458) := ⟨by (with_reducible repeat (first | apply Kd.R_alloc | apply Kd.R_drewN | apply Kd.R_drew)); exact Kd.R_mono (Kd.R_far (p := ⟨gb444, 0, none⟩) (Kd.R_types HO460.out BK444.out (by decide)) (fun _ hk => hk.2) (.int .u64 t464)) (fun _ hk => trivial)⟩
    have n3_ : Aside0 ((w132.setCell ⟨gb444, 0, none⟩ (.int .u64 t464)).heap[gb443]? = some (.cells #[.slice A1_0 l1_0.length c1_0, .slice A1_1 l1_1.length c1_1, .int .i64 a1_2, .int .i64 a1_3, .int .i64 a1_4, .int .i64 a1_5, .slice A1_6 l1_6.length c1_6] 26 (0, 0))) := ⟨by (with_reducible repeat (first | refine blk_drewN ?_ _ | refine blk_drew ?_ | refine blk_alloc ?_ _)); refine blk_far ?_ NB443_444.out _; (with_reducible repeat (first | refine blk_drewN ?_ _ | refine blk_drew ?_ | refine blk_alloc ?_ _)); exact BK443.out⟩
    have n4_ : Aside0 ((w132.setCell ⟨gb444, 0, none⟩ (.int .u64 t464)).heap[gb444]? = some (.cells #[.int .u64 t464] 37 (0, 0))) := ⟨by (with_reducible repeat (first | refine blk_drewN ?_ _ | refine blk_drew ?_ | refine blk_alloc ?_ _)); refine blk_put (cs := #[.int .u64 a2_0]) ?_ 0 _ rfl; (with_reducible repeat (first | refine blk_drewN ?_ _ | refine blk_drew ?_ | refine blk_alloc ?_ _)); exact BK444.out⟩
    have n5_ : Aside0 ((w132.setCell ⟨gb444, 0, none⟩ (.int .u64 t464)).heap[gb445]? = some (.cells #[.slice none 0 0, .slice none 0 0, .int .i64 0, .int .i64 0, .int .i64 0, .int .i64 0, .slice none 0 0] 26 (0, 0))) := ⟨by (with_reducible repeat (first | refine blk_drewN ?_ _ | refine blk_drew ?_ | refine blk_alloc ?_ _)); refine blk_far ?_ NB445_444.out _; (with_reducible repeat (first | refine blk_drewN ?_ _ | refine blk_drew ?_ | refine blk_alloc ?_ _)); exact BK445.out⟩
    have n6_ : Aside0 ((w132.setCell ⟨gb444, 0, none⟩ (.int .u64 t464)).heap[gb446]? = some (.cells #[.int .u64 0] 37 (0, 0))) := ⟨by (with_reducible repeat (first | refine blk_drewN ?_ _ | refine blk_drew ?_ | refine blk_alloc ?_ _)); refine blk_far ?_ NB446_444.out _; (with_reducible repeat (first | refine blk_drewN ?_ _ | refine blk_drew ?_ | refine blk_alloc ?_ _)); exact BK446.out⟩
    have n7_ : Aside0 ((w132.setCell ⟨gb444, 0, none⟩ (.int .u64 t464)).heap[gb461]? = some (.cells #[.slice Ao111 t448.length co111, .slice Ao117 t451.length co117, .int .i64 ji7, .int .i64 ji8, .int .i64 ji10, .int .i64 t457, .slice Ao118 t458.length co118] 26 (0, 0))) := ⟨by (with_reducible repeat (first | refine blk_drewN ?_ _ | refine blk_drew ?_ | refine blk_alloc ?_ _)); refine blk_far ?_ NB461_444.out _; (with_reducible repeat (first | refine blk_drewN ?_ _ | refine blk_drew ?_ | refine blk_alloc ?_ _)); exact BK461.out⟩
    have n8_ : Aside0 (Below w.heap.size w (w132.setCell ⟨gb444, 0, none⟩ (.int .u64 t464))) := ⟨by repeat (first | (with_reducible first | exact HB.out | apply below_alloc | apply pw_below_drewN | apply below_drew1 | refine below_set ?_ GE443.out | refine below_set ?_ GE444.out | refine below_set ?_ GE445.out | refine below_set ?_ GE446.out | refine below_set ?_ GE461.out) | exact HB.out)⟩
    (try clear HO450)
    (try clear HO453)
    (try clear HO460)
    (try clear BK443)
    (try clear BK444)
    (try clear BK445)
    (try clear BK446)
    (try clear BK461)
    (try clear HB)
    generalize (w132.setCell ⟨gb444, 0, none⟩ (.int .u64 t464)) = w134 at n0_ n1_ n2_ n3_ n4_ n5_ n6_ n7_ n8_ ⊢
    have HO450 := n0_
    have HO453 := n1_
    have HO460 := n2_
    have BK443 := n3_
    have BK444 := n4_
    have BK445 := n5_
    have BK446 := n6_
    have BK461 := n7_
    have HB := n8_
    clear n0_ n1_ n2_ n3_ n4_ n5_ n6_ n7_ n8_
    replace HO450 := Aside0.mk (Kd.R_drew HO450.out)
    replace HO453 := Aside0.mk (Kd.R_drew HO453.out)
    replace HO460 := Aside0.mk (Kd.R_drew HO460.out)
    replace BK443 := Aside0.mk (blk_drew BK443.out)
    replace BK444 := Aside0.mk (blk_drew BK444.out)
    replace BK445 := Aside0.mk (blk_drew BK445.out)
    replace BK446 := Aside0.mk (blk_drew BK446.out)
    replace BK461 := Aside0.mk (blk_drew BK461.out)
    replace HB := Aside0.mk (below_drew1 HB.out)
    refine start_ (n := 7) (S := fun w' => w'.cell? ⟨gb461, 0, none⟩ = some (.slice Ao111 t448.length co111) ∧ w'.cell? ⟨gb461, 1, none⟩ = some (.slice Ao117 t451.length co117) ∧ w'.cell? ⟨gb461, 2, none⟩ = some (.int .i64 ji7) ∧ w'.cell? ⟨gb461, 3, none⟩ = some (.int .i64 ji8) ∧ w'.cell? ⟨gb461, 4, none⟩ = some (.int .i64 ji10) ∧ w'.cell? ⟨gb461, 5, none⟩ = some (.int .i64 t457) ∧ w'.cell? ⟨gb461, 6, none⟩ = some (.slice Ao118 t458.length co118) ∧ w'.cell? ⟨gb444, 0, none⟩ = some (.int .u64 t464)) (ds := []) #[false, false, false, false, false, false, false] (by kernel_rfl) rfl rfl ⟨(blk_cell BK461.out 0).trans rfl, (blk_cell BK461.out 1).trans rfl, (blk_cell BK461.out 2).trans rfl, (blk_cell BK461.out 3).trans rfl, (blk_cell BK461.out 4).trans rfl, (blk_cell BK461.out 5).trans rfl, (blk_cell BK461.out 6).trans rfl, (blk_cell BK444.out 0).trans rfl⟩ (fun hHeld => ?_)
    generalize w134.drew = w135 at HO450 HO453 HO460 BK443 BK444 BK445 BK446 BK461 HB hHeld ⊢
    refine pure_ (i := 1) (N := some 58) (v := ?_) (a' := ?_) #[false, true, false, false, false, false, false] rfl rfl (by kernel_rfl) (fun _ _ _ h => h) (Or.inl ⟨by rfl, ?_⟩) ?_ ?_; rotate_left; (intro w'; go_simp; with_reducible rfl); rotate_left; (simp only [Act.put, sI_, s0_, sS_, i64_w, i32_w]; rfl)
    refine take_ (i := 0) (N := some 57) (v := ?_) (a' := ?_) (bA 2 7) rfl rfl (by kernel_rfl) (fun _ _ _ h => h) (Or.inl ⟨by rfl, ?_⟩) hHeld ?_ ?_; rotate_left; (rintro w' ⟨s0, s1, s2, s3, s4, s5, s6, s7⟩; go_simp; with_reducible rfl); rotate_left; (simp only [Act.put, sI_, s0_, sS_, i64_w, i32_w]; rfl)
    refine take_ (i := 2) (N := some 59) (v := ?_) (a' := ?_) (bA 3 7) rfl rfl (by kernel_rfl) (fun _ _ _ h => h) (Or.inl ⟨by rfl, ?_⟩) hHeld ?_ ?_; rotate_left; (rintro w' ⟨s0, s1, s2, s3, s4, s5, s6, s7⟩; go_simp; with_reducible rfl); rotate_left; (simp only [Act.put, sI_, s0_, sS_, i64_w, i32_w]; rfl)
    refine one_ (i := 3) (N := none) (bA 4 7) rfl rfl (by kernel_rfl) (by decide) (fun K hK => ?_)
    have hs136 : w135.cell? ⟨gb445, 0, none⟩ = some (.slice none 0 0) := (blk_cell BK445.out 0).trans rfl
    have hfs136 := blk_frozen BK445.out 0
    have hns136_0 := NB443_445.out
    have hns136_1 := NB444_445.out
    have hns136_3 := NB446_445.out
    have hns136_4 := NB461_445.out
    have hms136_0 := NB445_443.out
    have hms136_1 := NB445_444.out
    have hms136_3 := NB445_446.out
    have hms136_4 := NB445_461.out
    have hs137 : w135.cell? ⟨gb445, 1, none⟩ = some (.slice none 0 0) := (blk_cell BK445.out 1).trans rfl
    have hfs137 := blk_frozen BK445.out 1
    have hns137_0 := NB443_445.out
    have hns137_1 := NB444_445.out
    have hns137_3 := NB446_445.out
    have hns137_4 := NB461_445.out
    have hms137_0 := NB445_443.out
    have hms137_1 := NB445_444.out
    have hms137_3 := NB445_446.out
    have hms137_4 := NB445_461.out
    have hs138 : w135.cell? ⟨gb445, 2, none⟩ = some (.int .i64 0) := (blk_cell BK445.out 2).trans rfl
    have hfs138 := blk_frozen BK445.out 2
    have hns138_0 := NB443_445.out
    have hns138_1 := NB444_445.out
    have hns138_3 := NB446_445.out
    have hns138_4 := NB461_445.out
    have hms138_0 := NB445_443.out
    have hms138_1 := NB445_444.out
    have hms138_3 := NB445_446.out
    have hms138_4 := NB445_461.out
    have hs139 : w135.cell? ⟨gb445, 3, none⟩ = some (.int .i64 0) := (blk_cell BK445.out 3).trans rfl
    have hfs139 := blk_frozen BK445.out 3
    have hns139_0 := NB443_445.out
    have hns139_1 := NB444_445.out
    have hns139_3 := NB446_445.out
    have hns139_4 := NB461_445.out
    have hms139_0 := NB445_443.out
    have hms139_1 := NB445_444.out
    have hms139_3 := NB445_446.out
    have hms139_4 := NB445_461.out
    have hs140 : w135.cell? ⟨gb445, 4, none⟩ = some (.int .i64 0) := (blk_cell BK445.out 4).trans rfl
    have hfs140 := blk_frozen BK445.out 4
    have hns140_0 := NB443_445.out
    have hns140_1 := NB444_445.out
    have hns140_3 := NB446_445.out
    have hns140_4 := NB461_445.out
    have hms140_0 := NB445_443.out
    have hms140_1 := NB445_444.out
    have hms140_3 := NB445_446.out
    have hms140_4 := NB445_461.out
    have hs141 : w135.cell? ⟨gb445, 5, none⟩ = some (.int .i64 0) := (blk_cell BK445.out 5).trans rfl
    have hfs141 := blk_frozen BK445.out 5
    have hns141_0 := NB443_445.out
    have hns141_1 := NB444_445.out
    have hns141_3 := NB446_445.out
    have hns141_4 := NB461_445.out
    have hms141_0 := NB445_443.out
    have hms141_1 := NB445_444.out
    have hms141_3 := NB445_446.out
    have hms141_4 := NB445_461.out
    have hs142 : w135.cell? ⟨gb445, 6, none⟩ = some (.slice none 0 0) := (blk_cell BK445.out 6).trans rfl
    have hfs142 := blk_frozen BK445.out 6
    have hns142_0 := NB443_445.out
    have hns142_1 := NB444_445.out
    have hns142_3 := NB446_445.out
    have hns142_4 := NB461_445.out
    have hms142_0 := NB445_443.out
    have hms142_1 := NB445_444.out
    have hms142_3 := NB445_446.out
    have hms142_4 := NB445_461.out
    refine skip_ (w1 := ?_) (by rfl) rfl ?_ ?_
    rotate_left
    ·go_simp
     rfl
    refine hK.out _ _ ⟨((cell_far (p := ⟨gb445, _, none⟩) NB461_445.out _).trans (((cell_far (p := ⟨gb445, _, none⟩) NB461_445.out _).trans (((cell_far (p := ⟨gb445, _, none⟩) NB461_445.out _).trans (((cell_far (p := ⟨gb445, _, none⟩) NB461_445.out _).trans (((cell_far (p := ⟨gb445, _, none⟩) NB461_445.out _).trans (((cell_far (p := ⟨gb445, _, none⟩) NB461_445.out _).trans (((cell_far (p := ⟨gb445, _, none⟩) NB461_445.out _).trans (hHeld.1)))))))))))))), ((cell_far (p := ⟨gb445, _, none⟩) NB461_445.out _).trans (((cell_far (p := ⟨gb445, _, none⟩) NB461_445.out _).trans (((cell_far (p := ⟨gb445, _, none⟩) NB461_445.out _).trans (((cell_far (p := ⟨gb445, _, none⟩) NB461_445.out _).trans (((cell_far (p := ⟨gb445, _, none⟩) NB461_445.out _).trans (((cell_far (p := ⟨gb445, _, none⟩) NB461_445.out _).trans (((cell_far (p := ⟨gb445, _, none⟩) NB461_445.out _).trans (hHeld.2.1)))))))))))))), ((cell_far (p := ⟨gb445, _, none⟩) NB461_445.out _).trans (((cell_far (p := ⟨gb445, _, none⟩) NB461_445.out _).trans (((cell_far (p := ⟨gb445, _, none⟩) NB461_445.out _).trans (((cell_far (p := ⟨gb445, _, none⟩) NB461_445.out _).trans (((cell_far (p := ⟨gb445, _, none⟩) NB461_445.out _).trans (((cell_far (p := ⟨gb445, _, none⟩) NB461_445.out _).trans (((cell_far (p := ⟨gb445, _, none⟩) NB461_445.out _).trans (hHeld.2.2.1)))))))))))))), ((cell_far (p := ⟨gb445, _, none⟩) NB461_445.out _).trans (((cell_far (p := ⟨gb445, _, none⟩) NB461_445.out _).trans (((cell_far (p := ⟨gb445, _, none⟩) NB461_445.out _).trans (((cell_far (p := ⟨gb445, _, none⟩) NB461_445.out _).trans (((cell_far (p := ⟨gb445, _, none⟩) NB461_445.out _).trans (((cell_far (p := ⟨gb445, _, none⟩) NB461_445.out _).trans (((cell_far (p := ⟨gb445, _, none⟩) NB461_445.out _).trans (hHeld.2.2.2.1)))))))))))))), ((cell_far (p := ⟨gb445, _, none⟩) NB461_445.out _).trans (((cell_far (p := ⟨gb445, _, none⟩) NB461_445.out _).trans (((cell_far (p := ⟨gb445, _, none⟩) NB461_445.out _).trans (((cell_far (p := ⟨gb445, _, none⟩) NB461_445.out _).trans (((cell_far (p := ⟨gb445, _, none⟩) NB461_445.out _).trans (((cell_far (p := ⟨gb445, _, none⟩) NB461_445.out _).trans (((cell_far (p := ⟨gb445, _, none⟩) NB461_445.out _).trans (hHeld.2.2.2.2.1)))))))))))))), ((cell_far (p := ⟨gb445, _, none⟩) NB461_445.out _).trans (((cell_far (p := ⟨gb445, _, none⟩) NB461_445.out _).trans (((cell_far (p := ⟨gb445, _, none⟩) NB461_445.out _).trans (((cell_far (p := ⟨gb445, _, none⟩) NB461_445.out _).trans (((cell_far (p := ⟨gb445, _, none⟩) NB461_445.out _).trans (((cell_far (p := ⟨gb445, _, none⟩) NB461_445.out _).trans (((cell_far (p := ⟨gb445, _, none⟩) NB461_445.out _).trans (hHeld.2.2.2.2.2.1)))))))))))))), ((cell_far (p := ⟨gb445, _, none⟩) NB461_445.out _).trans (((cell_far (p := ⟨gb445, _, none⟩) NB461_445.out _).trans (((cell_far (p := ⟨gb445, _, none⟩) NB461_445.out _).trans (((cell_far (p := ⟨gb445, _, none⟩) NB461_445.out _).trans (((cell_far (p := ⟨gb445, _, none⟩) NB461_445.out _).trans (((cell_far (p := ⟨gb445, _, none⟩) NB461_445.out _).trans (((cell_far (p := ⟨gb445, _, none⟩) NB461_445.out _).trans (hHeld.2.2.2.2.2.2.1)))))))))))))), ((cell_far (p := ⟨gb445, _, none⟩) NB444_445.out _).trans (((cell_far (p := ⟨gb445, _, none⟩) NB444_445.out _).trans (((cell_far (p := ⟨gb445, _, none⟩) NB444_445.out _).trans (((cell_far (p := ⟨gb445, _, none⟩) NB444_445.out _).trans (((cell_far (p := ⟨gb445, _, none⟩) NB444_445.out _).trans (((cell_far (p := ⟨gb445, _, none⟩) NB444_445.out _).trans (((cell_far (p := ⟨gb445, _, none⟩) NB444_445.out _).trans (hHeld.2.2.2.2.2.2.2))))))))))))))⟩ (fun hHeld => ?_)
    clear hK K
    refine pure_ (i := 4) (N := some 7) (v := ?_) (a' := ?_) (bA 5 7) rfl rfl (by kernel_rfl) (fun _ _ _ h => h) (Or.inl ⟨by rfl, ?_⟩) ?_ ?_; rotate_left; (intro w'; go_simp; with_reducible rfl); rotate_left; (simp only [Act.put, sI_, s0_, sS_, i64_w, i32_w]; rfl)
    refine one_ (i := 5) (N := none) (bA 6 7) rfl rfl (by kernel_rfl) (by decide) (fun K hK => ?_)
    have hs143 : w135.cell? ⟨gb446, 0, none⟩ = some (.int .u64 0) := (blk_cell BK446.out 0).trans rfl
    have hfs143 := blk_frozen BK446.out 0
    have hns143_0 := NB443_446.out
    have hns143_1 := NB444_446.out
    have hns143_2 := NB445_446.out
    have hns143_4 := NB461_446.out
    have hms143_0 := NB446_443.out
    have hms143_1 := NB446_444.out
    have hms143_2 := NB446_445.out
    have hms143_4 := NB446_461.out
    refine skip_ (w1 := ?_) ?_ ?_ ?_ ?_; rotate_left; kernel_rfl; kernel_rfl; (go_simp; rfl)
    refine hK.out _ _ ⟨((cell_far (p := ⟨gb446, _, none⟩) NB461_446.out _).trans (hHeld.1)), ((cell_far (p := ⟨gb446, _, none⟩) NB461_446.out _).trans (hHeld.2.1)), ((cell_far (p := ⟨gb446, _, none⟩) NB461_446.out _).trans (hHeld.2.2.1)), ((cell_far (p := ⟨gb446, _, none⟩) NB461_446.out _).trans (hHeld.2.2.2.1)), ((cell_far (p := ⟨gb446, _, none⟩) NB461_446.out _).trans (hHeld.2.2.2.2.1)), ((cell_far (p := ⟨gb446, _, none⟩) NB461_446.out _).trans (hHeld.2.2.2.2.2.1)), ((cell_far (p := ⟨gb446, _, none⟩) NB461_446.out _).trans (hHeld.2.2.2.2.2.2.1)), ((cell_far (p := ⟨gb446, _, none⟩) NB444_446.out _).trans (hHeld.2.2.2.2.2.2.2))⟩ (fun hHeld => ?_)
    clear hK K
    refine pure_ (i := 6) (N := some 9) (v := ?_) (a' := ?_) (bA 7 7) rfl rfl (by kernel_rfl) (fun _ _ _ h => h) (Or.inl ⟨by rfl, ?_⟩) ?_ ?_; rotate_left; (intro w'; go_simp; with_reducible rfl); rotate_left; (simp only [Act.put, sI_, s0_, sS_, i64_w, i32_w]; rfl)
    refine done_ (by kernel_rfl) ?_
    try go_wp2
    refine bodyPost_ret (results_list (rs := [.cell 6 26, .tmp 7, .cell 8 37, .tmp 9]) rfl (by simp) (.cell gb445 26 #[.slice Ao111 t448.length co111, .slice Ao117 t451.length co117, .int .i64 ji7, .int .i64 ji8, .int .i64 ji10, .int .i64 t457, .slice Ao118 t458.length co118] (0, 0) _ rfl (by (with_reducible repeat (first | refine blk_drewN ?_ _ | refine blk_drew ?_ | refine blk_alloc ?_ _)); refine blk_far ?_ NB445_446.out _; (with_reducible repeat (first | refine blk_drewN ?_ _ | refine blk_drew ?_ | refine blk_alloc ?_ _)); refine blk_put (cs := #[.slice Ao111 t448.length co111, .slice Ao117 t451.length co117, .int .i64 ji7, .int .i64 ji8, .int .i64 ji10, .int .i64 t457, .slice none 0 0]) ?_ 6 _ rfl; (with_reducible repeat (first | refine blk_drewN ?_ _ | refine blk_drew ?_ | refine blk_alloc ?_ _)); refine blk_put (cs := #[.slice Ao111 t448.length co111, .slice Ao117 t451.length co117, .int .i64 ji7, .int .i64 ji8, .int .i64 ji10, .int .i64 0, .slice none 0 0]) ?_ 5 _ rfl; (with_reducible repeat (first | refine blk_drewN ?_ _ | refine blk_drew ?_ | refine blk_alloc ?_ _)); refine blk_put (cs := #[.slice Ao111 t448.length co111, .slice Ao117 t451.length co117, .int .i64 ji7, .int .i64 ji8, .int .i64 0, .int .i64 0, .slice none 0 0]) ?_ 4 _ rfl; (with_reducible repeat (first | refine blk_drewN ?_ _ | refine blk_drew ?_ | refine blk_alloc ?_ _)); refine blk_put (cs := #[.slice Ao111 t448.length co111, .slice Ao117 t451.length co117, .int .i64 ji7, .int .i64 0, .int .i64 0, .int .i64 0, .slice none 0 0]) ?_ 3 _ rfl; (with_reducible repeat (first | refine blk_drewN ?_ _ | refine blk_drew ?_ | refine blk_alloc ?_ _)); refine blk_put (cs := #[.slice Ao111 t448.length co111, .slice Ao117 t451.length co117, .int .i64 0, .int .i64 0, .int .i64 0, .int .i64 0, .slice none 0 0]) ?_ 2 _ rfl; (with_reducible repeat (first | refine blk_drewN ?_ _ | refine blk_drew ?_ | refine blk_alloc ?_ _)); refine blk_put (cs := #[.slice Ao111 t448.length co111, .slice none 0 0, .int .i64 0, .int .i64 0, .int .i64 0, .int .i64 0, .slice none 0 0]) ?_ 1 _ rfl; (with_reducible repeat (first | refine blk_drewN ?_ _ | refine blk_drew ?_ | refine blk_alloc ?_ _)); refine blk_put (cs := #[.slice none 0 0, .slice none 0 0, .int .i64 0, .int .i64 0, .int .i64 0, .int .i64 0, .slice none 0 0]) ?_ 0 _ rfl; (with_reducible repeat (first | refine blk_drewN ?_ _ | refine blk_drew ?_ | refine blk_alloc ?_ _)); exact BK445.out) Try.underlying26 rfl (by kernel_rfl) (.tmp (.cell gb446 37 #[.int .u64 t464] (0, 0) _ rfl (by (with_reducible repeat (first | refine blk_drewN ?_ _ | refine blk_drew ?_ | refine blk_alloc ?_ _)); refine blk_put (cs := #[.int .u64 0]) ?_ 0 _ rfl; (with_reducible repeat (first | refine blk_drewN ?_ _ | refine blk_drew ?_ | refine blk_alloc ?_ _)); refine blk_far ?_ NB446_445.out _; (with_reducible repeat (first | refine blk_drewN ?_ _ | refine blk_drew ?_ | refine blk_alloc ?_ _)); refine blk_far ?_ NB446_445.out _; (with_reducible repeat (first | refine blk_drewN ?_ _ | refine blk_drew ?_ | refine blk_alloc ?_ _)); refine blk_far ?_ NB446_445.out _; (with_reducible repeat (first | refine blk_drewN ?_ _ | refine blk_drew ?_ | refine blk_alloc ?_ _)); refine blk_far ?_ NB446_445.out _; (with_reducible repeat (first | refine blk_drewN ?_ _ | refine blk_drew ?_ | refine blk_alloc ?_ _)); refine blk_far ?_ NB446_445.out _; (with_reducible repeat (first | refine blk_drewN ?_ _ | refine blk_drew ?_ | refine blk_alloc ?_ _)); refine blk_far ?_ NB446_445.out _; (with_reducible repeat (first | refine blk_drewN ?_ _ | refine blk_drew ?_ | refine blk_alloc ?_ _)); refine blk_far ?_ NB446_445.out _; (with_reducible repeat (first | refine blk_drewN ?_ _ | refine blk_drew ?_ | refine blk_alloc ?_ _)); exact BK446.out) Try.underlying37 rfl (by kernel_rfl) (.tmp .nil))))) rfl ?_
    exact ⟨_, _, _, by first | rfl | (simp [errW_none, errW_some] <;> rfl) | (simp only [← hji7, ← hji8, ← hji10]; first | rfl | (simp [errW_none, errW_some] <;> rfl)) | (simp [*, errW_none, errW_some] <;> rfl), by (with_reducible repeat (first | apply Kd.R_alloc | apply Kd.R_drewN | apply Kd.R_drew)); exact Kd.R_mono (Kd.R_far (p := ⟨gb446, 0, none⟩) (far7_ (Kd.R_types (Kd.R_types HO450.out BK445.out (by decide)) BK446.out (by decide)) gb445 (fun _ hk => hk.1.2) (.slice Ao111 t448.length co111) (.slice Ao117 t451.length co117) (.int .i64 ji7) (.int .i64 ji8) (.int .i64 ji10) (.int .i64 t457) (.slice Ao118 t458.length co118)) (fun _ hk => hk.2) (.int .u64 t464)) (fun _ hk => hk.1.1), by (with_reducible repeat (first | apply Kd.R_alloc | apply Kd.R_drewN | apply Kd.R_drew)); exact Kd.R_mono (Kd.R_far (p := ⟨gb446, 0, none⟩) (far7_ (Kd.R_types (Kd.R_types HO453.out BK445.out (by decide)) BK446.out (by decide)) gb445 (fun _ hk => hk.1.2) (.slice Ao111 t448.length co111) (.slice Ao117 t451.length co117) (.int .i64 ji7) (.int .i64 ji8) (.int .i64 ji10) (.int .i64 t457) (.slice Ao118 t458.length co118)) (fun _ hk => hk.2) (.int .u64 t464)) (fun _ hk => hk.1.1), by (with_reducible repeat (first | apply Kd.R_alloc | apply Kd.R_drewN | apply Kd.R_drew)); exact Kd.R_mono (Kd.R_far (p := ⟨gb446, 0, none⟩) (far7_ (Kd.R_types (Kd.R_types HO460.out BK445.out (by decide)) BK446.out (by decide)) gb445 (fun _ hk => hk.1.2) (.slice Ao111 t448.length co111) (.slice Ao117 t451.length co117) (.int .i64 ji7) (.int .i64 ji8) (.int .i64 ji10) (.int .i64 t457) (.slice Ao118 t458.length co118)) (fun _ hk => hk.2) (.int .u64 t464)) (fun _ hk => trivial), by repeat (first | (with_reducible first | exact HB.out | apply below_alloc | apply pw_below_drewN | apply below_drew1 | refine below_set ?_ GE443.out | refine below_set ?_ GE444.out | refine below_set ?_ GE445.out | refine below_set ?_ GE446.out | refine below_set ?_ GE461.out) | exact HB.out)⟩
 ·rw [if_neg c5] at H
  have c5b0 : (t447 == 0) = false := beq_eq_false_iff_ne.mpr c5
  have c5b1 : (t447 != 0) = true := bne_iff_ne.mpr c5
  simp only [Option.some.injEq, Prod.mk.injEq] at H
  obtain ⟨rfl, rfl, rfl, rfl, rfl, rfl, rfl, rfl, rfl, rfl⟩ := H
  go_enter Try.func12, Try.ntmps12
  go_wp2_with (first | ((with_reducible refine gate_dst (N := 4) rfl ?_); refine box_event ?hg (N := 4) ?hd (cs := #[.slice A1_0 l1_0.length c1_0, .slice A1_1 l1_1.length c1_1, .int .i64 a1_2, .int .i64 a1_3, .int .i64 a1_4, .int .i64 a1_5, .slice A1_6 l1_6.length c1_6]) (t := 26) ?hr ?_; (case hd => rfl); (case hg => rfl); (case hr => first | (go_simp; done) | (go_simp; rfl)); intro gb443 hg w144 hbox hb; have BK443 := Aside0.mk (hbox); have GW443 := Aside0.mk ((dS_ hg (dL_ HB) : w.heap.size ≤ gb443)); have GE443 := Aside0.mk ((dS_ hg (dL_ HB) : w.heap.size ≤ gb443)); replace HB := Aside0.mk (below_step (dL_ HB) hb); clear hb hbox hg) | ((with_reducible refine gate_dst (N := 5) rfl ?_); refine box_event ?hg (N := 5) ?hd (cs := #[.int .u64 a2_0]) (t := 37) ?hr ?_; (case hd => rfl); (case hg => rfl); (case hr => first | (go_simp; done) | (go_simp; rfl)); intro gb444 hg w145 hbox hb; have BK444 := Aside0.mk (hbox); have GW444 := Aside0.mk ((dS_ hg (dL1_ HB GE443) : w.heap.size ≤ gb444)); have GE444 := Aside0.mk ((dS_ hg (dL1_ HB GE443) : w.heap.size ≤ gb444)); replace HB := Aside0.mk (below_step (dL1_ HB GE443) hb); have NB443_444 := Aside0.mk ((by rw [hg]; exact Nat.ne_of_lt (blk_lt (dB_ BK443)) : gb443 ≠ gb444)); have NB444_443 := Aside0.mk ((by rw [hg]; exact Nat.ne_of_gt (blk_lt (dB_ BK443)) : gb444 ≠ gb443)); replace BK443 := Aside0.mk (blk_below (g := gb443) (o := .cells #[.slice A1_0 l1_0.length c1_0, .slice A1_1 l1_1.length c1_1, .int .i64 a1_2, .int .i64 a1_3, .int .i64 a1_4, .int .i64 a1_5, .slice A1_6 l1_6.length c1_6] 26 (0, 0)) (dB_ BK443) hb); clear hb hbox hg) | ((with_reducible refine gate_dst (N := 6) rfl ?_); refine box_event ?hg (N := 6) ?hd (cs := #[.slice none 0 0, .slice none 0 0, .int .i64 0, .int .i64 0, .int .i64 0, .int .i64 0, .slice none 0 0]) (t := 26) ?hr ?_; (case hd => rfl); (case hg => rfl); (case hr => first | (go_simp; done) | (go_simp; rfl)); intro gb445 hg w146 hbox hb; have BK445 := Aside0.mk (hbox); have GW445 := Aside0.mk ((dS_ hg (dL2_ HB GE443 GE444) : w.heap.size ≤ gb445)); have GE445 := Aside0.mk ((dS_ hg (dL2_ HB GE443 GE444) : w.heap.size ≤ gb445)); replace HB := Aside0.mk (below_step (dL2_ HB GE443 GE444) hb); have NB443_445 := Aside0.mk ((by rw [hg]; exact Nat.ne_of_lt (blk_lt (dB_ BK443)) : gb443 ≠ gb445)); have NB445_443 := Aside0.mk ((by rw [hg]; exact Nat.ne_of_gt (blk_lt (dB_ BK443)) : gb445 ≠ gb443)); replace BK443 := Aside0.mk (blk_below (g := gb443) (o := .cells #[.slice A1_0 l1_0.length c1_0, .slice A1_1 l1_1.length c1_1, .int .i64 a1_2, .int .i64 a1_3, .int .i64 a1_4, .int .i64 a1_5, .slice A1_6 l1_6.length c1_6] 26 (0, 0)) (dB_ BK443) hb); have NB444_445 := Aside0.mk ((by rw [hg]; exact Nat.ne_of_lt (blk_lt (dB_ BK444)) : gb444 ≠ gb445)); have NB445_444 := Aside0.mk ((by rw [hg]; exact Nat.ne_of_gt (blk_lt (dB_ BK444)) : gb445 ≠ gb444)); replace BK444 := Aside0.mk (blk_below (g := gb444) (o := .cells #[.int .u64 a2_0] 37 (0, 0)) (dB_ BK444) hb); clear hb hbox hg) | ((with_reducible refine gate_dst (N := 8) rfl ?_); refine box_event ?hg (N := 8) ?hd (cs := #[.int .u64 0]) (t := 37) ?hr ?_; (case hd => rfl); (case hg => rfl); (case hr => first | (go_simp; done) | (go_simp; rfl)); intro gb446 hg w147 hbox hb; have BK446 := Aside0.mk (hbox); have GW446 := Aside0.mk ((dS_ hg (dL3_ HB GE443 GE444 GE445) : w.heap.size ≤ gb446)); have GE446 := Aside0.mk ((dS_ hg (dL3_ HB GE443 GE444 GE445) : w.heap.size ≤ gb446)); replace HB := Aside0.mk (below_step (dL3_ HB GE443 GE444 GE445) hb); have NB443_446 := Aside0.mk ((by rw [hg]; exact Nat.ne_of_lt (blk_lt (dB_ BK443)) : gb443 ≠ gb446)); have NB446_443 := Aside0.mk ((by rw [hg]; exact Nat.ne_of_gt (blk_lt (dB_ BK443)) : gb446 ≠ gb443)); replace BK443 := Aside0.mk (blk_below (g := gb443) (o := .cells #[.slice A1_0 l1_0.length c1_0, .slice A1_1 l1_1.length c1_1, .int .i64 a1_2, .int .i64 a1_3, .int .i64 a1_4, .int .i64 a1_5, .slice A1_6 l1_6.length c1_6] 26 (0, 0)) (dB_ BK443) hb); have NB444_446 := Aside0.mk ((by rw [hg]; exact Nat.ne_of_lt (blk_lt (dB_ BK444)) : gb444 ≠ gb446)); have NB446_444 := Aside0.mk ((by rw [hg]; exact Nat.ne_of_gt (blk_lt (dB_ BK444)) : gb446 ≠ gb444)); replace BK444 := Aside0.mk (blk_below (g := gb444) (o := .cells #[.int .u64 a2_0] 37 (0, 0)) (dB_ BK444) hb); have NB445_446 := Aside0.mk ((by rw [hg]; exact Nat.ne_of_lt (blk_lt (dB_ BK445)) : gb445 ≠ gb446)); have NB446_445 := Aside0.mk ((by rw [hg]; exact Nat.ne_of_gt (blk_lt (dB_ BK445)) : gb446 ≠ gb445)); replace BK445 := Aside0.mk (blk_below (g := gb445) (o := .cells #[.slice none 0 0, .slice none 0 0, .int .i64 0, .int .i64 0, .int .i64 0, .int .i64 0, .slice none 0 0] 26 (0, 0)) (dB_ BK445) hb); clear hb hbox hg; have hnb148 := NB443_444.out; have hnc148 := NB444_443.out; have hnb149 := NB443_445.out; have hnc149 := NB445_443.out; have hnb150 := NB443_446.out; have hnc150 := NB446_443.out; obtain ⟨hcz151_0, hcz151_1, hcz151_2, hcz151_3, hcz151_4, hcz151_5, hcz151_6, hfz151_0, hfz151_1, hfz151_2, hfz151_3, hfz151_4, hfz151_5, hfz151_6⟩ := cs7_ BK443.out) | ((with_reducible refine gate_callee (f := 11) rfl ?_); refine goesL_ (some 15) rfl rfl Try.func11 (by kernel_rfl) rfl #[.slice A0 l0.length c0, .agg #[.slice A1_0 l1_0.length c1_0, .slice A1_1 l1_1.length c1_1, .int .i64 a1_2, .int .i64 a1_3, .int .i64 a1_4, .int .i64 a1_5, .slice A1_6 l1_6.length c1_6]] rfl tA_ ?_; (with_reducible refine (fleet_Validate.calls k _ _ l0 _ _ l1_0 _ _ l1_1 a1_2 a1_3 a1_4 a1_5 _ _ l1_6 t447 _ ?side1 ?side2 ?side3 ?side4 ?side5 ?side6 ?side7 ?side8 A4.out).mono ?_); (case side1 => exact dC_ HR0 HB); (case side2 => exact HC0.out); (case side3 => exact dC_ HR1_0 HB); (case side4 => exact HC1_0.out); (case side5 => exact dC_ HR1_1 HB); (case side6 => exact HC1_1.out); (case side7 => exact dC_ HR1_6 HB); (case side8 => exact HC1_6.out); rintro e w152 ⟨rfl, hb⟩; refine ⟨_, rfl, ?_⟩; replace BK443 := Aside0.mk (blk_below (g := gb443) (o := .cells #[.slice A1_0 l1_0.length c1_0, .slice A1_1 l1_1.length c1_1, .int .i64 a1_2, .int .i64 a1_3, .int .i64 a1_4, .int .i64 a1_5, .slice A1_6 l1_6.length c1_6] 26 (0, 0)) (dB_ BK443) hb); replace BK444 := Aside0.mk (blk_below (g := gb444) (o := .cells #[.int .u64 a2_0] 37 (0, 0)) (dB_ BK444) hb); replace BK445 := Aside0.mk (blk_below (g := gb445) (o := .cells #[.slice none 0 0, .slice none 0 0, .int .i64 0, .int .i64 0, .int .i64 0, .int .i64 0, .slice none 0 0] 26 (0, 0)) (dB_ BK445) hb); replace BK446 := Aside0.mk (blk_below (g := gb446) (o := .cells #[.int .u64 0] 37 (0, 0)) (dB_ BK446) hb); replace HB := Aside0.mk (below_step (dL4_ HB GE443 GE444 GE445 GE446) hb); have hnb153 := NB445_444.out; have hnc153 := NB444_445.out; have hnb154 := NB445_446.out; have hnc154 := NB446_445.out; obtain ⟨hcz155_0, hcz155_1, hcz155_2, hcz155_3, hcz155_4, hcz155_5, hcz155_6, hfz155_0, hfz155_1, hfz155_2, hfz155_3, hfz155_4, hfz155_5, hfz155_6⟩ := cs7_ BK445.out; have hnb156 := NB446_444.out; have hnc156 := NB444_446.out; have hcz157_0 : w152.cell? ⟨gb446, 0, none⟩ = some (.int .u64 0) := (blk_cell BK446.out 0).trans rfl; have hfz157_0 := blk_frozen BK446.out 0))
  refine bodyPost_ret (results_list (rs := [.cell 6 26, .tmp 7, .cell 8 37, .tmp 9]) rfl (by simp) (.cell gb445 26 #[.slice none 0 0, .slice none 0 0, .int .i64 0, .int .i64 0, .int .i64 0, .int .i64 0, .slice none 0 0] (0, 0) _ rfl (by (with_reducible repeat (first | refine blk_drewN ?_ _ | refine blk_drew ?_ | refine blk_alloc ?_ _)); refine blk_far ?_ NB445_446.out _; (with_reducible repeat (first | refine blk_drewN ?_ _ | refine blk_drew ?_ | refine blk_alloc ?_ _)); refine blk_put (cs := #[.slice none 0 0, .slice none 0 0, .int .i64 0, .int .i64 0, .int .i64 0, .int .i64 0, .slice none 0 0]) ?_ 6 _ rfl; (with_reducible repeat (first | refine blk_drewN ?_ _ | refine blk_drew ?_ | refine blk_alloc ?_ _)); refine blk_put (cs := #[.slice none 0 0, .slice none 0 0, .int .i64 0, .int .i64 0, .int .i64 0, .int .i64 0, .slice none 0 0]) ?_ 5 _ rfl; (with_reducible repeat (first | refine blk_drewN ?_ _ | refine blk_drew ?_ | refine blk_alloc ?_ _)); refine blk_put (cs := #[.slice none 0 0, .slice none 0 0, .int .i64 0, .int .i64 0, .int .i64 0, .int .i64 0, .slice none 0 0]) ?_ 4 _ rfl; (with_reducible repeat (first | refine blk_drewN ?_ _ | refine blk_drew ?_ | refine blk_alloc ?_ _)); refine blk_put (cs := #[.slice none 0 0, .slice none 0 0, .int .i64 0, .int .i64 0, .int .i64 0, .int .i64 0, .slice none 0 0]) ?_ 3 _ rfl; (with_reducible repeat (first | refine blk_drewN ?_ _ | refine blk_drew ?_ | refine blk_alloc ?_ _)); refine blk_put (cs := #[.slice none 0 0, .slice none 0 0, .int .i64 0, .int .i64 0, .int .i64 0, .int .i64 0, .slice none 0 0]) ?_ 2 _ rfl; (with_reducible repeat (first | refine blk_drewN ?_ _ | refine blk_drew ?_ | refine blk_alloc ?_ _)); refine blk_put (cs := #[.slice none 0 0, .slice none 0 0, .int .i64 0, .int .i64 0, .int .i64 0, .int .i64 0, .slice none 0 0]) ?_ 1 _ rfl; (with_reducible repeat (first | refine blk_drewN ?_ _ | refine blk_drew ?_ | refine blk_alloc ?_ _)); refine blk_put (cs := #[.slice none 0 0, .slice none 0 0, .int .i64 0, .int .i64 0, .int .i64 0, .int .i64 0, .slice none 0 0]) ?_ 0 _ rfl; (with_reducible repeat (first | refine blk_drewN ?_ _ | refine blk_drew ?_ | refine blk_alloc ?_ _)); exact BK445.out) Try.underlying26 rfl (by kernel_rfl) (.tmp (.cell gb446 37 #[.int .u64 0] (0, 0) _ rfl (by (with_reducible repeat (first | refine blk_drewN ?_ _ | refine blk_drew ?_ | refine blk_alloc ?_ _)); refine blk_put (cs := #[.int .u64 0]) ?_ 0 _ rfl; (with_reducible repeat (first | refine blk_drewN ?_ _ | refine blk_drew ?_ | refine blk_alloc ?_ _)); refine blk_far ?_ NB446_445.out _; (with_reducible repeat (first | refine blk_drewN ?_ _ | refine blk_drew ?_ | refine blk_alloc ?_ _)); refine blk_far ?_ NB446_445.out _; (with_reducible repeat (first | refine blk_drewN ?_ _ | refine blk_drew ?_ | refine blk_alloc ?_ _)); refine blk_far ?_ NB446_445.out _; (with_reducible repeat (first | refine blk_drewN ?_ _ | refine blk_drew ?_ | refine blk_alloc ?_ _)); refine blk_far ?_ NB446_445.out _; (with_reducible repeat (first | refine blk_drewN ?_ _ | refine blk_drew ?_ | refine blk_alloc ?_ _)); refine blk_far ?_ NB446_445.out _; (with_reducible repeat (first | refine blk_drewN ?_ _ | refine blk_drew ?_ | refine blk_alloc ?_ _)); refine blk_far ?_ NB446_445.out _; (with_reducible repeat (first | refine blk_drewN ?_ _ | refine blk_drew ?_ | refine blk_alloc ?_ _)); refine blk_far ?_ NB446_445.out _; (with_reducible repeat (first | refine blk_drewN ?_ _ | refine blk_drew ?_ | refine blk_alloc ?_ _)); exact BK446.out) Try.underlying37 rfl (by kernel_rfl) (.tmp .nil))))) rfl ?_
  exact ⟨_, _, _, tE_, by first | exact Kd.R_nil _ _ _ _ _ | exact Kd.N_nil _ _ _ _ _ | exact Kd.V_nil _ _ _ _ _ | exact Kd.Q_nil _ _ _ _ _ | exact Kd.S_nil _ _ _ _ _, by first | exact Kd.R_nil _ _ _ _ _ | exact Kd.N_nil _ _ _ _ _ | exact Kd.V_nil _ _ _ _ _ | exact Kd.Q_nil _ _ _ _ _ | exact Kd.S_nil _ _ _ _ _, by first | exact Kd.R_nil _ _ _ _ _ | exact Kd.N_nil _ _ _ _ _ | exact Kd.V_nil _ _ _ _ _ | exact Kd.Q_nil _ _ _ _ _ | exact Kd.S_nil _ _ _ _ _, dL4_ HB GE443 GE444 GE445 GE446⟩

end Go.Proofs.Ytgnahbjpockdmab.Q
