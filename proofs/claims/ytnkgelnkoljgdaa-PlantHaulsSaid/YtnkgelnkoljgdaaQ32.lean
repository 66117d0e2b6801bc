-- PRINTED by print.py (a twelfth state) out of the translation. Not trusted: Lean checks it.
import Derived.Test.YtnkgelnkoljgdaaPrs
import Derived.Test.YtnkgelnkoljgdaaQ0
import Derived.Test.YtnkgelnkoljgdaaQ25
import Derived.Test.YtnkgelnkoljgdaaQ26
namespace Go.Proofs.Ytnkgelnkoljgdaa.Q
open Go.RowKit Go.Proofs.YtnkgelnkoljgdaaPrs Go.Proofs.YtnkgelnkoljgdaaOwn Go.Proofs.YtnkgelnkoljgdaaW.PrintWords Go.Proofs.YtnkgelnkoljgdaaW.PrintLast Go.Proofs.YtnkgelnkoljgdaaW.PrintMore
open List renaming setIfInBounds_toArray → sI_, set_cons_zero → s0_, set_cons_succ → sS_
attribute [local go_sem] max2_int min2_int max_two min_two max_three min_three max_four min_four   -- for this text's walks alone
set_option linter.unusedVariables false
set_option linter.unusedSimpArgs false

/-! ### hinterlandref10_Haul: function 23 -/
def hinterlandref10_Haul.l0 : Nat → Int → Int → Int → List (S41) → Int → Int → Int → Int → Int → List Int → List Int → List Int → List Int → Int → Int → Bool → Int → Int → Int → List Int → List Int → List Int → List Int → Int → Int → Bool → Option (Int × Int × Int × List Int × List Int × List Int × List Int × Int × Int × Bool × Int × Int)
  | 0, _, _, _, _, _, _, _, _, _, _, _, _, _, _, _, _, _, _, _, _, _, _, _, _, _, _ => none
  | k + 1, x2, x3, x13, x32, x33, x34, x567000, x567001, x567002, x567003, x567004, x567005, x567006, x567007, x567008, x567009, x588000, x588001, x588002, x588003, x588004, x588005, x588006, x588007, x588008, x588009 => if x34 < x33 then (if 0 ≤ x34 then (if x34 < (x32.length : Int) then (if ((rd_T41 x32 x34).f0) = x2 then (if x34 < (x567003.length : Int) then (if x34 < (x588003.length : Int) then (if x34 < (x567006.length : Int) then (if x34 < (x588006.length : Int) then (hinterlandref10_Haul.l0 k x2 x3 (mn x3 (rd x567003 x34)) x32 x33 (wrap64 (x34 + 1)) x567000 x567001 x567002 x567003 x567004 x567005 x567006 x567007 x567008 x567009 x588000 x588001 x588002 (x588003.set (x34 : Int).toNat (wrap64 ((rd x588003 x34) - (mn x3 (rd x567003 x34))))) x588004 x588005 (x588006.set (x34 : Int).toNat (mn (wrap64 ((rd x567006 x34) + (mn x3 (rd x567003 x34)))) 1000000)) x588007 x588008 x588009) else (none)) else (none)) else (none)) else (none)) else (hinterlandref10_Haul.l0 k x2 x3 x13 x32 x33 (wrap64 (x34 + 1)) x567000 x567001 x567002 x567003 x567004 x567005 x567006 x567007 x567008 x567009 x588000 x588001 x588002 x588003 x588004 x588005 x588006 x588007 x588008 x588009)) else (none)) else (none)) else (some (x588000, x588001, x588002, x588003, x588004, x588005, x588006, x588007, x588008, x588009, x13, 0))
def hinterlandref10_Haul.f (k : Nat) (l0 : List (S39)) (a1_0 : Int) (a1_1 : Int) (a1_2 : Int) (l1_3 : List Int) (l1_4 : List Int) (l1_5 : List Int) (l1_6 : List Int) (a1_7 : Int) (a1_8 : Int) (a1_9 : Bool) (a2 : Int) (a3 : Int) : Option (Int × Int × Int × List Int × List Int × List Int × List Int × Int × Int × Bool × Int × Int) := (hinterlandref10_asked.f k l0 a1_0 a1_1 a1_2 l1_3 l1_4 l1_5 l1_6 a1_7 a1_8 a1_9 a2 a3).bind fun t568 => (if t568 = 0 then ((hinterlandref10_again.f a1_0 a1_1 a1_2 l1_3 l1_4 l1_5 l1_6 a1_7 a1_8 a1_9).bind fun bt569 => (if 0 ≤ a1_0 then (if a1_0 < (l0.length : Int) then (hinterlandref10_Haul.l0 k a2 a3 0 ((rd_T39 l0 a1_0).f2) (((rd_T39 l0 a1_0).f2).length : Int) 0 a1_0 a1_1 a1_2 l1_3 l1_4 l1_5 l1_6 a1_7 a1_8 a1_9 bt569.1 bt569.2.1 bt569.2.2.1 bt569.2.2.2.1 bt569.2.2.2.2.1 bt569.2.2.2.2.2.1 bt569.2.2.2.2.2.2.1 bt569.2.2.2.2.2.2.2.1 bt569.2.2.2.2.2.2.2.2.1 bt569.2.2.2.2.2.2.2.2.2) else (none)) else (none))) else (some (0, 0, 0, ([] : List Int), ([] : List Int), ([] : List Int), ([] : List Int), 0, 0, false, 0, t568)))
theorem hinterlandref10_Haul.mono_l : ∀ k, (∀ y0 y1 y2 y3 y4 y5 y6 y7 y8 y9 y10 y11 y12 y13 y14 y15 y16 y17 y18 y19 y20 y21 y22 y23 y24 y25, LeO (hinterlandref10_Haul.l0 k y0 y1 y2 y3 y4 y5 y6 y7 y8 y9 y10 y11 y12 y13 y14 y15 y16 y17 y18 y19 y20 y21 y22 y23 y24 y25) (hinterlandref10_Haul.l0 (k + 1) y0 y1 y2 y3 y4 y5 y6 y7 y8 y9 y10 y11 y12 y13 y14 y15 y16 y17 y18 y19 y20 y21 y22 y23 y24 y25))
  | 0 => fun _ _ _ _ _ _ _ _ _ _ _ _ _ _ _ _ _ _ _ _ _ _ _ _ _ _ r h => by simp [hinterlandref10_Haul.l0] at h
  | k + 1 => by
    have ih0 := hinterlandref10_Haul.mono_l k
    · intro y0 y1 y2 y3 y4 y5 y6 y7 y8 y9 y10 y11 y12 y13 y14 y15 y16 y17 y18 y19 y20 y21 y22 y23 y24 y25
      unfold hinterlandref10_Haul.l0
      repeat' first
      | (with_reducible first | exact ih0 _ _ _ _ _ _ _ _ _ _ _ _ _ _ _ _ _ _ _ _ _ _ _ _ _ _ | exact hinterlandref10_asked.mono _ _ _ _ _ _ _ _ _ _ _ _ _ _ | exact LeO.refl _ | exact LeO.none _ | refine LeO.ite ?_ ?_ | refine LeO.bind ?_ (fun _ => ?_))
      | exact ih0 _ _ _ _ _ _ _ _ _ _ _ _ _ _ _ _ _ _ _ _ _ _ _ _ _ _
      | exact hinterlandref10_asked.mono _ _ _ _ _ _ _ _ _ _ _ _ _ _
      | exact LeO.none _
      | refine LeO.ite ?_ ?_
      | refine LeO.bind ?_ (fun _ => ?_)
theorem hinterlandref10_Haul.mono : ∀ a0 a1 a2 a3 a4 a5 a6 a7 a8 a9 a10 a11 a12 k, LeO (hinterlandref10_Haul.f k a0 a1 a2 a3 a4 a5 a6 a7 a8 a9 a10 a11 a12) (hinterlandref10_Haul.f (k + 1) a0 a1 a2 a3 a4 a5 a6 a7 a8 a9 a10 a11 a12) := by
  intro a0 a1 a2 a3 a4 a5 a6 a7 a8 a9 a10 a11 a12 k
  have ih0 := hinterlandref10_Haul.mono_l k
  unfold hinterlandref10_Haul.f
  repeat' first
      | (with_reducible first | exact ih0 _ _ _ _ _ _ _ _ _ _ _ _ _ _ _ _ _ _ _ _ _ _ _ _ _ _ | exact hinterlandref10_asked.mono _ _ _ _ _ _ _ _ _ _ _ _ _ _ | exact LeO.refl _ | exact LeO.none _ | refine LeO.ite ?_ ?_ | refine LeO.bind ?_ (fun _ => ?_))
      | exact ih0 _ _ _ _ _ _ _ _ _ _ _ _ _ _ _ _ _ _ _ _ _ _ _ _ _ _
      | exact hinterlandref10_asked.mono _ _ _ _ _ _ _ _ _ _ _ _ _ _
      | exact LeO.none _
      | refine LeO.ite ?_ ?_
      | refine LeO.bind ?_ (fun _ => ?_)
def hinterlandref10_Haul.T11 : Bool × List (List Nat × List Nat) := (true, [([], []), ([0], [0]), ([], []), ([], []), ([3], [3]), ([], []), ([4, 5], [4, 5]), ([6], [6]), ([], []), ([7, 8], [7, 8]), ([9], [9]), ([1, 2, 0, 1, 2, 3, 4, 5, 6, 7, 8, 9, 10], [1, 2]), ([11, 10, 0, 1, 2, 3, 4, 5, 6, 7, 8, 9, 10], [10, 11])])
def hinterlandref10_Haul.B11 : List Nat := [0, 1, 0, 0, 8, 0, 56, 120, 0, 504, 1016, 2047, 4095]
theorem hinterlandref10_Haul.tab11 : rtab .any (opsOf Try.f23 11) = hinterlandref10_Haul.T11 := by kernel_rfl
theorem hinterlandref10_Haul.bits11 : waitsOk hinterlandref10_Haul.T11.2 hinterlandref10_Haul.B11 = true := by kernel_rfl
set_option maxHeartbeats 8000000 in
set_option maxRecDepth 100000 in
theorem hinterlandref10_Haul.calls (k : Nat) (A0 : Option Addr) (c0 : Nat) (l0 : List (S39)) (a1_0 : Int) (a1_1 : Int) (a1_2 : Int) (A1_3 : Option Addr) (c1_3 : Nat) (l1_3 : List Int) (A1_4 : Option Addr) (c1_4 : Nat) (l1_4 : List Int) (A1_5 : Option Addr) (c1_5 : Nat) (l1_5 : List Int) (A1_6 : Option Addr) (c1_6 : Nat) (l1_6 : List Int) (a1_7 : Int) (a1_8 : Int) (a1_9 : Bool) (a2 : Int) (a3 : Int) (r1 : Int) (r2 : Int) (r3 : Int) (r4 : List Int) (r5 : List Int) (r6 : List Int) (r7 : List Int) (r8 : Int) (r9 : Int) (r10 : Bool) (r11 : Int) (r12 : Int) (w : World) (hr0 : Kd.C k39 w A0 l0.length l0) (hc0 : l0.length ≤ c0) (hr1_3 : Kd.C (Kd.int .i64) w A1_3 l1_3.length l1_3) (hc1_3 : l1_3.length ≤ c1_3) (hr1_4 : Kd.C (Kd.int .i64) w A1_4 l1_4.length l1_4) (hc1_4 : l1_4.length ≤ c1_4) (hr1_5 : Kd.C (Kd.int .i64) w A1_5 l1_5.length l1_5) (hc1_5 : l1_5.length ≤ c1_5) (hr1_6 : Kd.C (Kd.int .i64) w A1_6 l1_6.length l1_6) (hc1_6 : l1_6.length ≤ c1_6) (h : hinterlandref10_Haul.f k l0 a1_0 a1_1 a1_2 l1_3 l1_4 l1_5 l1_6 a1_7 a1_8 a1_9 a2 a3 = some (r1, r2, r3, r4, r5, r6, r7, r8, r9, r10, r11, r12)) :
    Calls Try.prog 23 #[.slice A0 l0.length c0, .agg #[.int .i64 a1_0, .int .i64 a1_1, .int .i64 a1_2, .slice A1_3 l1_3.length c1_3, .slice A1_4 l1_4.length c1_4, .slice A1_5 l1_5.length c1_5, .slice A1_6 l1_6.length c1_6, .int .i64 a1_7, .int .i64 a1_8, .bool a1_9], .int .i64 a2, .int .i64 a3] w fun e w' => ∃ v3_ v4_ v5_ v6_ : Value, e = .returned (.tuple #[.agg #[.int .i64 r1, .int .i64 r2, .int .i64 r3, v3_, v4_, v5_, v6_, .int .i64 r8, .int .i64 r9, .bool r10], .int .i64 r11, .int .i64 r12]) ∧ Kd.R (Kd.int .i64) 3 w' w.heap.size (fun k_ => some k_ ≠ (v4_ : Value).ownBlock ∧ some k_ ≠ (v5_ : Value).ownBlock ∧ some k_ ≠ (v6_ : Value).ownBlock) v3_ r4 ∧ Kd.R (Kd.int .i64) 3 w' w.heap.size (fun k_ => some k_ ≠ (v3_ : Value).ownBlock ∧ some k_ ≠ (v5_ : Value).ownBlock ∧ some k_ ≠ (v6_ : Value).ownBlock) v4_ r5 ∧ Kd.R (Kd.int .i64) 3 w' w.heap.size (fun k_ => some k_ ≠ (v3_ : Value).ownBlock ∧ some k_ ≠ (v4_ : Value).ownBlock ∧ some k_ ≠ (v6_ : Value).ownBlock) v5_ r6 ∧ Kd.R (Kd.int .i64) 3 w' w.heap.size (fun k_ => some k_ ≠ (v3_ : Value).ownBlock ∧ some k_ ≠ (v4_ : Value).ownBlock ∧ some k_ ≠ (v5_ : Value).ownBlock) v6_ r7 ∧ Below w.heap.size w w' := by
 have hu25 := Try.underlying25
 have hu41 := Try.underlying41
 have HR0 := Aside0.mk hr0
 have HC0 := Aside0.mk hc0
 clear hr0 hc0
 have HR1_3 := Aside0.mk hr1_3
 have HC1_3 := Aside0.mk hc1_3
 clear hr1_3 hc1_3
 have HR1_4 := Aside0.mk hr1_4
 have HC1_4 := Aside0.mk hc1_4
 clear hr1_4 hc1_4
 have HR1_5 := Aside0.mk hr1_5
 have HC1_5 := Aside0.mk hc1_5
 clear hr1_5 hc1_5
 have HR1_6 := Aside0.mk hr1_6
 have HC1_6 := Aside0.mk hc1_6
 clear hr1_6 hc1_6
 have HB := Aside0.mk (Below.refl w.heap.size w)
 have H : ((hinterlandref10_asked.f k l0 a1_0 a1_1 a1_2 l1_3 l1_4 l1_5 l1_6 a1_7 a1_8 a1_9 a2 a3).bind fun t568 => (if t568 = 0 then ((hinterlandref10_again.f a1_0 a1_1 a1_2 l1_3 l1_4 l1_5 l1_6 a1_7 a1_8 a1_9).bind fun bt569 => (if 0 ≤ a1_0 then (if a1_0 < (l0.length : Int) then (hinterlandref10_Haul.l0 k a2 a3 0 ((rd_T39 l0 a1_0).f2) (((rd_T39 l0 a1_0).f2).length : Int) 0 a1_0 a1_1 a1_2 l1_3 l1_4 l1_5 l1_6 a1_7 a1_8 a1_9 bt569.1 bt569.2.1 bt569.2.2.1 bt569.2.2.2.1 bt569.2.2.2.2.1 bt569.2.2.2.2.2.1 bt569.2.2.2.2.2.2.1 bt569.2.2.2.2.2.2.2.1 bt569.2.2.2.2.2.2.2.2.1 bt569.2.2.2.2.2.2.2.2.2) else (none)) else (none))) else (some (0, 0, 0, ([] : List Int), ([] : List Int), ([] : List Int), ([] : List Int), 0, 0, false, 0, t568)))) = some (r1, r2, r3, r4, r5, r6, r7, r8, r9, r10, r11, r12) := h
 clear h
 replace H := Option.bind_eq_some_iff.mp H
 obtain ⟨t568, A50, H⟩ := H
 replace H : (if t568 = 0 then ((hinterlandref10_again.f a1_0 a1_1 a1_2 l1_3 l1_4 l1_5 l1_6 a1_7 a1_8 a1_9).bind fun bt569 => (if 0 ≤ a1_0 then (if a1_0 < (l0.length : Int) then (hinterlandref10_Haul.l0 k a2 a3 0 ((rd_T39 l0 a1_0).f2) (((rd_T39 l0 a1_0).f2).length : Int) 0 a1_0 a1_1 a1_2 l1_3 l1_4 l1_5 l1_6 a1_7 a1_8 a1_9 bt569.1 bt569.2.1 bt569.2.2.1 bt569.2.2.2.1 bt569.2.2.2.2.1 bt569.2.2.2.2.2.1 bt569.2.2.2.2.2.2.1 bt569.2.2.2.2.2.2.2.1 bt569.2.2.2.2.2.2.2.2.1 bt569.2.2.2.2.2.2.2.2.2) else (none)) else (none))) else (some (0, 0, 0, ([] : List Int), ([] : List Int), ([] : List Int), ([] : List Int), 0, 0, false, 0, t568))) = some (r1, r2, r3, r4, r5, r6, r7, r8, r9, r10, r11, r12) := H
 have A5 := Aside0.mk A50
 clear A50
 by_cases c6 : t568 = 0
 ·rw [if_pos c6] at H
  have c6b0 : (t568 == 0) = true := beq_iff_eq.mpr c6
  have c6b1 : (t568 != 0) = false := bne_eq_false_iff_eq.mpr c6
  clear c6
  replace H := Option.bind_eq_some_iff.mp H
  obtain ⟨⟨t569, t570, t571, t572, t575, t578, t581, t584, t585, t586⟩, A70, H⟩ := H
  replace H : (if 0 ≤ a1_0 then (if a1_0 < (l0.length : Int) then (hinterlandref10_Haul.l0 k a2 a3 0 ((rd_T39 l0 a1_0).f2) (((rd_T39 l0 a1_0).f2).length : Int) 0 a1_0 a1_1 a1_2 l1_3 l1_4 l1_5 l1_6 a1_7 a1_8 a1_9 t569 t570 t571 t572 t575 t578 t581 t584 t585 t586) else (none)) else (none)) = some (r1, r2, r3, r4, r5, r6, r7, r8, r9, r10, r11, r12) := H
  have A7 := Aside0.mk A70
  clear A70
  by_cases c8 : 0 ≤ a1_0
  ·rw [if_pos c8] at H
   have c8b0 : decide (0 ≤ a1_0) = true := decide_eq_true c8
   clear c8
   by_cases c9 : a1_0 < (l0.length : Int)
   ·rw [if_pos c9] at H
    have c9b0 : decide (a1_0 < (l0.length : Int)) = true := decide_eq_true c9
    clear c9
    have H' := Aside0.mk H
    clear H
    go_enter Try.func23, Try.ntmps23
    go_wp2_with (first | ((with_reducible refine gate_dst (N := 5) rfl ?_); refine box_event ?hg (N := 5) ?hd (cs := #[.int .i64 a1_0, .int .i64 a1_1, .int .i64 a1_2, .slice A1_3 l1_3.length c1_3, .slice A1_4 l1_4.length c1_4, .slice A1_5 l1_5.length c1_5, .slice A1_6 l1_6.length c1_6, .int .i64 a1_7, .int .i64 a1_8, .bool a1_9]) (t := 25) ?hr ?_; (case hd => rfl); (case hg => rfl); (case hr => first | (go_simp; done) | (go_simp; rfl)); intro gb566 hg w10 hbox hb; have BK566 := Aside0.mk (hbox); have GW566 := Aside0.mk ((dS_ hg (dL_ HB) : w.heap.size ≤ gb566)); have GE566 := Aside0.mk ((dS_ hg (dL_ HB) : w.heap.size ≤ gb566)); replace HB := Aside0.mk (below_step (dL_ HB) hb); clear hb hbox hg) | ((with_reducible refine gate_dst (N := 8) rfl ?_); refine box_event ?hg (N := 8) ?hd (cs := #[.int .i64 0, .int .i64 0, .int .i64 0, .slice none 0 0, .slice none 0 0, .slice none 0 0, .slice none 0 0, .int .i64 0, .int .i64 0, .bool false]) (t := 25) ?hr ?_; (case hd => rfl); (case hg => rfl); (case hr => first | (go_simp; done) | (go_simp; rfl)); intro gb567 hg w11 hbox hb; have BK567 := Aside0.mk (hbox); have GW567 := Aside0.mk ((dS_ hg (dL1_ HB GE566) : w.heap.size ≤ gb567)); have GE567 := Aside0.mk ((dS_ hg (dL1_ HB GE566) : w.heap.size ≤ gb567)); replace HB := Aside0.mk (below_step (dL1_ HB GE566) hb); have NB566_567 := Aside0.mk ((by rw [hg]; exact Nat.ne_of_lt (blk_lt (dB_ BK566)) : gb566 ≠ gb567)); have NB567_566 := Aside0.mk ((by rw [hg]; exact Nat.ne_of_gt (blk_lt (dB_ BK566)) : gb567 ≠ gb566)); replace BK566 := Aside0.mk (blk_below (g := gb566) (o := .cells #[.int .i64 a1_0, .int .i64 a1_1, .int .i64 a1_2, .slice A1_3 l1_3.length c1_3, .slice A1_4 l1_4.length c1_4, .slice A1_5 l1_5.length c1_5, .slice A1_6 l1_6.length c1_6, .int .i64 a1_7, .int .i64 a1_8, .bool a1_9] 25 (0, 0)) (dB_ BK566) hb); clear hb hbox hg; have hnb12 := NB566_567.out; have hnc12 := NB567_566.out; obtain ⟨hcz13_0, hcz13_1, hcz13_2, hcz13_3, hcz13_4, hcz13_5, hcz13_6, hcz13_7, hcz13_8, hcz13_9, hfz13_0, hfz13_1, hfz13_2, hfz13_3, hfz13_4, hfz13_5, hfz13_6, hfz13_7, hfz13_8, hfz13_9⟩ := cs10_ BK566.out) | ((with_reducible refine gate_callee (f := 40) rfl ?_); refine goesL_ (some 20) rfl rfl Try.func40 (by kernel_rfl) rfl #[.slice A0 l0.length c0, .agg #[.int .i64 a1_0, .int .i64 a1_1, .int .i64 a1_2, .slice A1_3 l1_3.length c1_3, .slice A1_4 l1_4.length c1_4, .slice A1_5 l1_5.length c1_5, .slice A1_6 l1_6.length c1_6, .int .i64 a1_7, .int .i64 a1_8, .bool a1_9], .int .i64 a2, .int .i64 a3] rfl tA_ ?_; (with_reducible refine (hinterlandref10_asked.calls k _ _ l0 a1_0 a1_1 a1_2 _ _ l1_3 _ _ l1_4 _ _ l1_5 _ _ l1_6 a1_7 a1_8 a1_9 a2 a3 t568 _ ?side1 ?side2 ?side3 ?side4 ?side5 ?side6 ?side7 ?side8 ?side9 ?side10 A5.out).mono ?_); (case side1 => exact dC_ HR0 HB); (case side2 => exact HC0.out); (case side3 => exact dC_ HR1_3 HB); (case side4 => exact HC1_3.out); (case side5 => exact dC_ HR1_4 HB); (case side6 => exact HC1_4.out); (case side7 => exact dC_ HR1_5 HB); (case side8 => exact HC1_5.out); (case side9 => exact dC_ HR1_6 HB); (case side10 => exact HC1_6.out); rintro e w14 ⟨rfl, hb⟩; refine ⟨_, rfl, ?_⟩; replace BK566 := Aside0.mk (blk_below (g := gb566) (o := .cells #[.int .i64 a1_0, .int .i64 a1_1, .int .i64 a1_2, .slice A1_3 l1_3.length c1_3, .slice A1_4 l1_4.length c1_4, .slice A1_5 l1_5.length c1_5, .slice A1_6 l1_6.length c1_6, .int .i64 a1_7, .int .i64 a1_8, .bool a1_9] 25 (0, 0)) (dB_ BK566) hb); replace BK567 := Aside0.mk (blk_below (g := gb567) (o := .cells #[.int .i64 0, .int .i64 0, .int .i64 0, .slice none 0 0, .slice none 0 0, .slice none 0 0, .slice none 0 0, .int .i64 0, .int .i64 0, .bool false] 25 (0, 0)) (dB_ BK567) hb); replace HB := Aside0.mk (below_step (dL2_ HB GE566 GE567) hb); obtain ⟨hcz15_0, hcz15_1, hcz15_2, hcz15_3, hcz15_4, hcz15_5, hcz15_6, hcz15_7, hcz15_8, hcz15_9, hfz15_0, hfz15_1, hfz15_2, hfz15_3, hfz15_4, hfz15_5, hfz15_6, hfz15_7, hfz15_8, hfz15_9⟩ := cs10_ BK566.out) | ((with_reducible refine gate_callee (f := 41) rfl ?_); refine goesL_ (some 26) rfl rfl Try.func41 (by kernel_rfl) rfl #[.agg #[.int .i64 a1_0, .int .i64 a1_1, .int .i64 a1_2, .slice A1_3 l1_3.length c1_3, .slice A1_4 l1_4.length c1_4, .slice A1_5 l1_5.length c1_5, .slice A1_6 l1_6.length c1_6, .int .i64 a1_7, .int .i64 a1_8, .bool a1_9]] rfl tA_ ?_; (with_reducible refine (hinterlandref10_again.calls a1_0 a1_1 a1_2 _ _ l1_3 _ _ l1_4 _ _ l1_5 _ _ l1_6 a1_7 a1_8 a1_9 t569 t570 t571 t572 t575 t578 t581 t584 t585 t586 _ ?side1 ?side2 ?side3 ?side4 ?side5 ?side6 ?side7 ?side8 A7.out).mono ?_); (case side1 => exact dC_ HR1_3 HB); (case side2 => exact HC1_3.out); (case side3 => exact dC_ HR1_4 HB); (case side4 => exact HC1_4.out); (case side5 => exact dC_ HR1_5 HB); (case side6 => exact HC1_5.out); (case side7 => exact dC_ HR1_6 HB); (case side8 => exact HC1_6.out); rintro e w16 ⟨v573, v576, v579, v582, rfl, ho0, ho1, ho2, ho3, hb⟩; refine ⟨_, rfl, ?_⟩; have HO574 := Aside0.mk (Kd.R_lower ho0 (below_size (dL2_ HB GE566 GE567))); have HO577 := Aside0.mk (Kd.R_lower ho1 (below_size (dL2_ HB GE566 GE567))); have HO580 := Aside0.mk (Kd.R_lower ho2 (below_size (dL2_ HB GE566 GE567))); have HO583 := Aside0.mk (Kd.R_lower ho3 (below_size (dL2_ HB GE566 GE567))); replace BK566 := Aside0.mk (blk_below (g := gb566) (o := .cells #[.int .i64 a1_0, .int .i64 a1_1, .int .i64 a1_2, .slice A1_3 l1_3.length c1_3, .slice A1_4 l1_4.length c1_4, .slice A1_5 l1_5.length c1_5, .slice A1_6 l1_6.length c1_6, .int .i64 a1_7, .int .i64 a1_8, .bool a1_9] 25 (0, 0)) (dB_ BK566) hb); replace BK567 := Aside0.mk (blk_below (g := gb567) (o := .cells #[.int .i64 0, .int .i64 0, .int .i64 0, .slice none 0 0, .slice none 0 0, .slice none 0 0, .slice none 0 0, .int .i64 0, .int .i64 0, .bool false] 25 (0, 0)) (dB_ BK567) hb); replace HB := Aside0.mk (below_step (dL2_ HB GE566 GE567) hb)) | ((with_reducible refine gate_dst (N := 12) rfl ?_); refine box_event ?hg (N := 12) ?hd (cs := #[.int .i64 0, .int .i64 0, .int .i64 0, .slice none 0 0, .slice none 0 0, .slice none 0 0, .slice none 0 0, .int .i64 0, .int .i64 0, .bool false]) (t := 25) ?hr ?_; (case hd => rfl); (case hg => rfl); (case hr => first | (go_simp; done) | (go_simp; rfl)); intro gb587 hg w17 hbox hb; replace HO574 := Aside0.mk (Kd.R_below (dR_ HO574) hb); replace HO577 := Aside0.mk (Kd.R_below (dR_ HO577) hb); replace HO580 := Aside0.mk (Kd.R_below (dR_ HO580) hb); replace HO583 := Aside0.mk (Kd.R_below (dR_ HO583) hb); have BK587 := Aside0.mk (hbox); have GW587 := Aside0.mk ((dS_ hg (dL2_ HB GE566 GE567) : w.heap.size ≤ gb587)); have GE587 := Aside0.mk ((dS_ hg (dL2_ HB GE566 GE567) : w.heap.size ≤ gb587)); replace HB := Aside0.mk (below_step (dL2_ HB GE566 GE567) hb); have NB566_587 := Aside0.mk ((by rw [hg]; exact Nat.ne_of_lt (blk_lt (dB_ BK566)) : gb566 ≠ gb587)); have NB587_566 := Aside0.mk ((by rw [hg]; exact Nat.ne_of_gt (blk_lt (dB_ BK566)) : gb587 ≠ gb566)); replace BK566 := Aside0.mk (blk_below (g := gb566) (o := .cells #[.int .i64 a1_0, .int .i64 a1_1, .int .i64 a1_2, .slice A1_3 l1_3.length c1_3, .slice A1_4 l1_4.length c1_4, .slice A1_5 l1_5.length c1_5, .slice A1_6 l1_6.length c1_6, .int .i64 a1_7, .int .i64 a1_8, .bool a1_9] 25 (0, 0)) (dB_ BK566) hb); have NB567_587 := Aside0.mk ((by rw [hg]; exact Nat.ne_of_lt (blk_lt (dB_ BK567)) : gb567 ≠ gb587)); have NB587_567 := Aside0.mk ((by rw [hg]; exact Nat.ne_of_gt (blk_lt (dB_ BK567)) : gb587 ≠ gb567)); replace BK567 := Aside0.mk (blk_below (g := gb567) (o := .cells #[.int .i64 0, .int .i64 0, .int .i64 0, .slice none 0 0, .slice none 0 0, .slice none 0 0, .slice none 0 0, .int .i64 0, .int .i64 0, .bool false] 25 (0, 0)) (dB_ BK567) hb); clear hb hbox hg; have hnb18 := NB587_566.out; have hnc18 := NB566_587.out; have hnb19 := NB587_567.out; have hnc19 := NB567_587.out; obtain ⟨hcz20_0, hcz20_1, hcz20_2, hcz20_3, hcz20_4, hcz20_5, hcz20_6, hcz20_7, hcz20_8, hcz20_9, hfz20_0, hfz20_1, hfz20_2, hfz20_3, hfz20_4, hfz20_5, hfz20_6, hfz20_7, hfz20_8, hfz20_9⟩ := cs10_ BK587.out; obtain ⟨Ao21, co21, eo21⟩ := Kd.R_slice HO574.out; subst eo21; obtain ⟨Ao22, co22, eo22⟩ := Kd.R_slice HO577.out; subst eo22; obtain ⟨Ao23, co23, eo23⟩ := Kd.R_slice HO580.out; subst eo23; obtain ⟨Ao24, co24, eo24⟩ := Kd.R_slice HO583.out; subst eo24; obtain ⟨hcz25_0, hcz25_1, hcz25_2, hcz25_3, hcz25_4, hcz25_5, hcz25_6, hcz25_7, hcz25_8, hcz25_9, hfz25_0, hfz25_1, hfz25_2, hfz25_3, hfz25_4, hfz25_5, hfz25_6, hfz25_7, hfz25_8, hfz25_9⟩ := cs10_ BK566.out; have p588 : 0 ≤ (a1_0 : Int) := of_decide_eq_true tW_; have q588 : a1_0 < (l0.length : Int) := of_decide_eq_true tW_; obtain ⟨ad588, A588_1, c588_1, A588_2, c588_2, e588, hx588_0, hx588_1, hx588_2, hl588_1, hi588_1, hl588_2, hi588_2⟩ := at_T39 HR0.out a1_0 p588 q588; cases e588; have hn588_0 : ad588.block ≠ gb587 := Nat.ne_of_lt (Nat.lt_of_lt_of_le (by have := World.block_lt_of_cell? _ _ hx588_0; first | rwa [add_block] at this | exact this) GW587.out); have hn588_1 : ad588.block ≠ gb587 := Nat.ne_of_lt (Nat.lt_of_lt_of_le (by have := World.block_lt_of_cell? _ _ hx588_0; first | rwa [add_block] at this | exact this) GW587.out); have hn588_2 : ad588.block ≠ gb587 := Nat.ne_of_lt (Nat.lt_of_lt_of_le (by have := World.block_lt_of_cell? _ _ hx588_0; first | rwa [add_block] at this | exact this) GW587.out); have hn588_3 : ad588.block ≠ gb587 := Nat.ne_of_lt (Nat.lt_of_lt_of_le (by have := World.block_lt_of_cell? _ _ hx588_0; first | rwa [add_block] at this | exact this) GW587.out); have hn588_4 : ad588.block ≠ gb587 := Nat.ne_of_lt (Nat.lt_of_lt_of_le (by have := World.block_lt_of_cell? _ _ hx588_0; first | rwa [add_block] at this | exact this) GW587.out); have hn588_5 : ad588.block ≠ gb587 := Nat.ne_of_lt (Nat.lt_of_lt_of_le (by have := World.block_lt_of_cell? _ _ hx588_0; first | rwa [add_block] at this | exact this) GW587.out); have hn588_6 : ad588.block ≠ gb587 := Nat.ne_of_lt (Nat.lt_of_lt_of_le (by have := World.block_lt_of_cell? _ _ hx588_0; first | rwa [add_block] at this | exact this) GW587.out); have hn588_7 : ad588.block ≠ gb587 := Nat.ne_of_lt (Nat.lt_of_lt_of_le (by have := World.block_lt_of_cell? _ _ hx588_0; first | rwa [add_block] at this | exact this) GW587.out); have hn588_8 : ad588.block ≠ gb587 := Nat.ne_of_lt (Nat.lt_of_lt_of_le (by have := World.block_lt_of_cell? _ _ hx588_0; first | rwa [add_block] at this | exact this) GW587.out); have hn588_9 : ad588.block ≠ gb587 := Nat.ne_of_lt (Nat.lt_of_lt_of_le (by have := World.block_lt_of_cell? _ _ hx588_0; first | rwa [add_block] at this | exact this) GW587.out); replace hx588_0 := bc_ HB hx588_0; replace hx588_1 := bc_ HB hx588_1; replace hx588_2 := bc_ HB hx588_2; have HR588_1 := Aside0.mk hi588_1; have HC588_1 := Aside0.mk hl588_1; clear hi588_1 hl588_1; have HR588_2 := Aside0.mk hi588_2; have HC588_2 := Aside0.mk hl588_2; clear hi588_2 hl588_2; replace hx588_0 := (cell_far (p := ⟨gb587, 0, none⟩) (aB_ hn588_0) (.int .i64 t569)).trans hx588_0; replace hx588_1 := (cell_far (p := ⟨gb587, 0, none⟩) (aB_ hn588_0) (.int .i64 t569)).trans hx588_1; replace hx588_2 := (cell_far (p := ⟨gb587, 0, none⟩) (aB_ hn588_0) (.int .i64 t569)).trans hx588_2; replace hx588_0 := (cell_far (p := ⟨gb587, 1, none⟩) (aB_ hn588_1) (.int .i64 t570)).trans hx588_0; replace hx588_1 := (cell_far (p := ⟨gb587, 1, none⟩) (aB_ hn588_1) (.int .i64 t570)).trans hx588_1; replace hx588_2 := (cell_far (p := ⟨gb587, 1, none⟩) (aB_ hn588_1) (.int .i64 t570)).trans hx588_2; replace hx588_0 := (cell_far (p := ⟨gb587, 2, none⟩) (aB_ hn588_2) (.int .i64 t571)).trans hx588_0; replace hx588_1 := (cell_far (p := ⟨gb587, 2, none⟩) (aB_ hn588_2) (.int .i64 t571)).trans hx588_1; replace hx588_2 := (cell_far (p := ⟨gb587, 2, none⟩) (aB_ hn588_2) (.int .i64 t571)).trans hx588_2; replace hx588_0 := (cell_far (p := ⟨gb587, 3, none⟩) (aB_ hn588_3) (.slice Ao21 t572.length co21)).trans hx588_0; replace hx588_1 := (cell_far (p := ⟨gb587, 3, none⟩) (aB_ hn588_3) (.slice Ao21 t572.length co21)).trans hx588_1; replace hx588_2 := (cell_far (p := ⟨gb587, 3, none⟩) (aB_ hn588_3) (.slice Ao21 t572.length co21)).trans hx588_2; replace hx588_0 := (cell_far (p := ⟨gb587, 4, none⟩) (aB_ hn588_4) (.slice Ao22 t575.length co22)).trans hx588_0; replace hx588_1 := (cell_far (p := ⟨gb587, 4, none⟩) (aB_ hn588_4) (.slice Ao22 t575.length co22)).trans hx588_1; replace hx588_2 := (cell_far (p := ⟨gb587, 4, none⟩) (aB_ hn588_4) (.slice Ao22 t575.length co22)).trans hx588_2; replace hx588_0 := (cell_far (p := ⟨gb587, 5, none⟩) (aB_ hn588_5) (.slice Ao23 t578.length co23)).trans hx588_0; replace hx588_1 := (cell_far (p := ⟨gb587, 5, none⟩) (aB_ hn588_5) (.slice Ao23 t578.length co23)).trans hx588_1; replace hx588_2 := (cell_far (p := ⟨gb587, 5, none⟩) (aB_ hn588_5) (.slice Ao23 t578.length co23)).trans hx588_2; replace hx588_0 := (cell_far (p := ⟨gb587, 6, none⟩) (aB_ hn588_6) (.slice Ao24 t581.length co24)).trans hx588_0; replace hx588_1 := (cell_far (p := ⟨gb587, 6, none⟩) (aB_ hn588_6) (.slice Ao24 t581.length co24)).trans hx588_1; replace hx588_2 := (cell_far (p := ⟨gb587, 6, none⟩) (aB_ hn588_6) (.slice Ao24 t581.length co24)).trans hx588_2; replace hx588_0 := (cell_far (p := ⟨gb587, 7, none⟩) (aB_ hn588_7) (.int .i64 t584)).trans hx588_0; replace hx588_1 := (cell_far (p := ⟨gb587, 7, none⟩) (aB_ hn588_7) (.int .i64 t584)).trans hx588_1; replace hx588_2 := (cell_far (p := ⟨gb587, 7, none⟩) (aB_ hn588_7) (.int .i64 t584)).trans hx588_2; replace hx588_0 := (cell_far (p := ⟨gb587, 8, none⟩) (aB_ hn588_8) (.int .i64 t585)).trans hx588_0; replace hx588_1 := (cell_far (p := ⟨gb587, 8, none⟩) (aB_ hn588_8) (.int .i64 t585)).trans hx588_1; replace hx588_2 := (cell_far (p := ⟨gb587, 8, none⟩) (aB_ hn588_8) (.int .i64 t585)).trans hx588_2; replace hx588_0 := (cell_far (p := ⟨gb587, 9, none⟩) (aB_ hn588_9) (.bool t586)).trans hx588_0; replace hx588_1 := (cell_far (p := ⟨gb587, 9, none⟩) (aB_ hn588_9) (.bool t586)).trans hx588_1; replace hx588_2 := (cell_far (p := ⟨gb587, 9, none⟩) (aB_ hn588_9) (.bool t586)).trans hx588_2; clear hn588_0; clear hn588_1; clear hn588_2; clear hn588_3; clear hn588_4; clear hn588_5; clear hn588_6; clear hn588_7; clear hn588_8; clear hn588_9; replace p588 := eq_true p588; replace q588 := eq_true q588))
    go_loopg [13, 34] k (fun kq v13 v34 w' => ∃ (x13_1 : Int) (x34_1 : Int) (x588003_1 : List Int) (x588004_1 : List Int) (x588005_1 : List Int) (x588006_1 : List Int) (u588003 : Value) (u588004 : Value) (u588005 : Value) (u588006 : Value), v13 = .int .i64 x13_1 ∧ v34 = .int .i64 x34_1 ∧ Aside0 (hinterlandref10_Haul.l0 kq a2 a3 x13_1 ((rd_T39 l0 a1_0).f2) (((rd_T39 l0 a1_0).f2).length : Int) x34_1 a1_0 a1_1 a1_2 l1_3 l1_4 l1_5 l1_6 a1_7 a1_8 a1_9 t569 t570 t571 x588003_1 x588004_1 x588005_1 x588006_1 t584 t585 t586 = some (r1, r2, r3, r4, r5, r6, r7, r8, r9, r10, r11, r12)) ∧ Aside0 (kq ≤ k) ∧ Aside0 (Kd.R (Kd.int .i64) 3 w' w.heap.size (fun k_ => some k_ ≠ (u588004 : Value).ownBlock ∧ some k_ ≠ (u588005 : Value).ownBlock ∧ some k_ ≠ (u588006 : Value).ownBlock) u588003 x588003_1) ∧ Aside0 (Kd.R (Kd.int .i64) 3 w' w.heap.size (fun k_ => some k_ ≠ (u588003 : Value).ownBlock ∧ some k_ ≠ (u588005 : Value).ownBlock ∧ some k_ ≠ (u588006 : Value).ownBlock) u588004 x588004_1) ∧ Aside0 (Kd.R (Kd.int .i64) 3 w' w.heap.size (fun k_ => some k_ ≠ (u588003 : Value).ownBlock ∧ some k_ ≠ (u588004 : Value).ownBlock ∧ some k_ ≠ (u588006 : Value).ownBlock) u588005 x588005_1) ∧ Aside0 (Kd.R (Kd.int .i64) 3 w' w.heap.size (fun k_ => some k_ ≠ (u588003 : Value).ownBlock ∧ some k_ ≠ (u588004 : Value).ownBlock ∧ some k_ ≠ (u588005 : Value).ownBlock) u588006 x588006_1) ∧ Aside0 (w'.heap[gb566]? = some (.cells #[.int .i64 a1_0, .int .i64 a1_1, .int .i64 a1_2, (.slice A1_3 l1_3.length c1_3), (.slice A1_4 l1_4.length c1_4), (.slice A1_5 l1_5.length c1_5), (.slice A1_6 l1_6.length c1_6), .int .i64 a1_7, .int .i64 a1_8, .bool a1_9] 25 (0, 0))) ∧ Aside0 (w'.heap[gb567]? = some (.cells #[.int .i64 0, .int .i64 0, .int .i64 0, (.slice none 0 0), (.slice none 0 0), (.slice none 0 0), (.slice none 0 0), .int .i64 0, .int .i64 0, .bool false] 25 (0, 0))) ∧ Aside0 (w'.heap[gb587]? = some (.cells #[.int .i64 t569, .int .i64 t570, .int .i64 t571, u588003, u588004, u588005, u588006, .int .i64 t584, .int .i64 t585, .bool t586] 25 (0, 0))) ∧ Aside0 (Below w.heap.size w w'))
    case atStart => exact ⟨(0), (0), (t572), (t575), (t578), (t581), (.slice Ao21 t572.length co21), (.slice Ao22 t575.length co22), (.slice Ao23 t578.length co23), (.slice Ao24 t581.length co24), tS_, tS_, H', ⟨Nat.le_refl _⟩, ⟨by (with_reducible repeat (first | apply Kd.R_alloc | apply Kd.R_drewN | apply Kd.R_drew)); exact Kd.R_mono (far10_ (Kd.R_types HO574.out BK587.out (by decide)) gb587 (fun _ hk => hk.2) (.int .i64 t569) (.int .i64 t570) (.int .i64 t571) (.slice Ao21 t572.length co21) (.slice Ao22 t575.length co22) (.slice Ao23 t578.length co23) (.slice Ao24 t581.length co24) (.int .i64 t584) (.int .i64 t585) (.bool t586)) (fun _ hk => ⟨hk.1.1, ⟨hk.1.2.1, hk.1.2.2⟩⟩)⟩, ⟨by (with_reducible repeat (first | apply Kd.R_alloc | apply Kd.R_drewN | apply Kd.R_drew)); exact Kd.R_mono (far10_ (Kd.R_types HO577.out BK587.out (by decide)) gb587 (fun _ hk => hk.2) (.int .i64 t569) (.int .i64 t570) (.int .i64 t571) (.slice Ao21 t572.length co21) (.slice Ao22 t575.length co22) (.slice Ao23 t578.length co23) (.slice Ao24 t581.length co24) (.int .i64 t584) (.int .i64 t585) (.bool t586)) (fun _ hk => ⟨hk.1.1, ⟨hk.1.2.1, hk.1.2.2⟩⟩)⟩, ⟨by (with_reducible repeat (first | apply Kd.R_alloc | apply Kd.R_drewN | apply Kd.R_drew)); exact Kd.R_mono (far10_ (Kd.R_types HO580.out BK587.out (by decide)) gb587 (fun _ hk => hk.2) (.int .i64 t569) (.int .i64 t570) (.int .i64 t571) (.slice Ao21 t572.length co21) (.slice Ao22 t575.length co22) (.slice Ao23 t578.length co23) (.slice Ao24 t581.length co24) (.int .i64 t584) (.int .i64 t585) (.bool t586)) (fun _ hk => ⟨hk.1.1, ⟨hk.1.2.1, hk.1.2.2⟩⟩)⟩, ⟨by (with_reducible repeat (first | apply Kd.R_alloc | apply Kd.R_drewN | apply Kd.R_drew)); exact Kd.R_mono (far10_ (Kd.R_types HO583.out BK587.out (by decide)) gb587 (fun _ hk => hk.2) (.int .i64 t569) (.int .i64 t570) (.int .i64 t571) (.slice Ao21 t572.length co21) (.slice Ao22 t575.length co22) (.slice Ao23 t578.length co23) (.slice Ao24 t581.length co24) (.int .i64 t584) (.int .i64 t585) (.bool t586)) (fun _ hk => ⟨hk.1.1, ⟨hk.1.2.1, hk.1.2.2⟩⟩)⟩, ⟨dF10_ BK566 NB566_587⟩, ⟨dF10_ BK567 NB567_587⟩, ⟨dP10_ BK587⟩, ⟨dL3_ HB GE566 GE567 GE587⟩⟩
    case round =>
     clear H'
     try clear c6
     try clear c6b0
     try clear c6b1
     try clear c8
     try clear c8b0
     try clear c9
     try clear c9b0
     try clear hcz13_0
     try clear hcz13_1
     try clear hcz13_2
     try clear hcz13_3
     try clear hcz13_4
     try clear hcz13_5
     try clear hcz13_6
     try clear hcz13_7
     try clear hcz13_8
     try clear hcz13_9
     try clear hcz15_0
     try clear hcz15_1
     try clear hcz15_2
     try clear hcz15_3
     try clear hcz15_4
     try clear hcz15_5
     try clear hcz15_6
     try clear hcz15_7
     try clear hcz15_8
     try clear hcz15_9
     try clear hcz20_0
     try clear hcz20_1
     try clear hcz20_2
     try clear hcz20_3
     try clear hcz20_4
     try clear hcz20_5
     try clear hcz20_6
     try clear hcz20_7
     try clear hcz20_8
     try clear hcz20_9
     try clear hcz25_0
     try clear hcz25_1
     try clear hcz25_2
     try clear hcz25_3
     try clear hcz25_4
     try clear hcz25_5
     try clear hcz25_6
     try clear hcz25_7
     try clear hcz25_8
     try clear hcz25_9
     try clear hfz13_0
     try clear hfz13_1
     try clear hfz13_2
     try clear hfz13_3
     try clear hfz13_4
     try clear hfz13_5
     try clear hfz13_6
     try clear hfz13_7
     try clear hfz13_8
     try clear hfz13_9
     try clear hfz15_0
     try clear hfz15_1
     try clear hfz15_2
     try clear hfz15_3
     try clear hfz15_4
     try clear hfz15_5
     try clear hfz15_6
     try clear hfz15_7
     try clear hfz15_8
     try clear hfz15_9
     try clear hfz20_0
     try clear hfz20_1
     try clear hfz20_2
     try clear hfz20_3
     try clear hfz20_4
     try clear hfz20_5
     try clear hfz20_6
     try clear hfz20_7
     try clear hfz20_8
     try clear hfz20_9
     try clear hfz25_0
     try clear hfz25_1
     try clear hfz25_2
     try clear hfz25_3
     try clear hfz25_4
     try clear hfz25_5
     try clear hfz25_6
     try clear hfz25_7
     try clear hfz25_8
     try clear hfz25_9
     try clear hx588_0
     try clear hx588_1
     try clear hx588_2
     try clear p588
     try clear q588
     obtain ⟨x13_1, x34_1, x588003_1, x588004_1, x588005_1, x588006_1, u588003, u588004, u588005, u588006, rfl, rfl, HA, HK1, HO_588003, HO_588004, HO_588005, HO_588006, BK566, BK567, BK587, HB⟩ := hrel
     cases gk with
     | zero => exact absurd HA.out (by simp [hinterlandref10_Haul.l0])
     | succ k1 =>
      have H := HA.out
      clear HA
      simp only [hinterlandref10_Haul.l0] at H
      by_cases c26 : x34_1 < (((rd_T39 l0 a1_0).f2).length : Int)
      ·rw [if_pos c26] at H
       have c26b0 : decide (x34_1 < (((rd_T39 l0 a1_0).f2).length : Int)) = true := decide_eq_true c26
       clear c26
       by_cases c27 : 0 ≤ x34_1
       ·rw [if_pos c27] at H
        have c27b0 : decide (0 ≤ x34_1) = true := decide_eq_true c27
        clear c27
        by_cases c28 : x34_1 < (((rd_T39 l0 a1_0).f2).length : Int)
        ·rw [if_pos c28] at H
         have c28b0 : decide (x34_1 < (((rd_T39 l0 a1_0).f2).length : Int)) = true := decide_eq_true c28
         clear c28
         by_cases c29 : ((rd_T41 ((rd_T39 l0 a1_0).f2) x34_1).f0) = a2
         ·rw [if_pos c29] at H
          have c29b0 : (((rd_T41 ((rd_T39 l0 a1_0).f2) x34_1).f0) == a2) = true := beq_iff_eq.mpr c29
          have c29b1 : (((rd_T41 ((rd_T39 l0 a1_0).f2) x34_1).f0) != a2) = false := bne_eq_false_iff_eq.mpr c29
          clear c29
          by_cases c30 : x34_1 < (l1_3.length : Int)
          ·rw [if_pos c30] at H
           have c30b0 : decide (x34_1 < (l1_3.length : Int)) = true := decide_eq_true c30
           clear c30
           obtain ⟨ji31, hji31⟩ : ∃ j_ : Int, (mn a3 (rd l1_3 x34_1)) = j_ := ⟨_, rfl⟩
           replace H : (if x34_1 < (x588003_1.length : Int) then (if x34_1 < (l1_6.length : Int) then (if x34_1 < (x588006_1.length : Int) then (hinterlandref10_Haul.l0 k1 a2 a3 ji31 ((rd_T39 l0 a1_0).f2) (((rd_T39 l0 a1_0).f2).length : Int) (wrap64 (x34_1 + 1)) a1_0 a1_1 a1_2 l1_3 l1_4 l1_5 l1_6 a1_7 a1_8 a1_9 t569 t570 t571 (x588003_1.set (x34_1 : Int).toNat (wrap64 ((rd x588003_1 x34_1) - (ji31)))) x588004_1 x588005_1 (x588006_1.set (x34_1 : Int).toNat (mn (wrap64 ((rd l1_6 x34_1) + (ji31))) 1000000)) t584 t585 t586) else (none)) else (none)) else (none)) = some (r1, r2, r3, r4, r5, r6, r7, r8, r9, r10, r11, r12) := by first | (rw [hji31] at H; exact H) | (simp only [hji31] at H ⊢; exact H)
           have hji31_ : (if (rd l1_3 x34_1) < a3 then (rd l1_3 x34_1) else a3) = ji31 := hji31
           by_cases c32 : x34_1 < (x588003_1.length : Int)
           ·rw [if_pos c32] at H
            have c32b0 : decide (x34_1 < (x588003_1.length : Int)) = true := decide_eq_true c32
            clear c32
            obtain ⟨y593, hy593⟩ : ∃ y_ : List Int, y_ = (x588003_1.set (x34_1 : Int).toNat (wrap64 ((rd x588003_1 x34_1) - (ji31)))) := ⟨_, rfl⟩
            replace H : (if x34_1 < (l1_6.length : Int) then (if x34_1 < (x588006_1.length : Int) then (hinterlandref10_Haul.l0 k1 a2 a3 ji31 ((rd_T39 l0 a1_0).f2) (((rd_T39 l0 a1_0).f2).length : Int) (wrap64 (x34_1 + 1)) a1_0 a1_1 a1_2 l1_3 l1_4 l1_5 l1_6 a1_7 a1_8 a1_9 t569 t570 t571 y593 x588004_1 x588005_1 (x588006_1.set (x34_1 : Int).toNat (mn (wrap64 ((rd l1_6 x34_1) + (ji31))) 1000000)) t584 t585 t586) else (none)) else (none)) = some (r1, r2, r3, r4, r5, r6, r7, r8, r9, r10, r11, r12) := by first | (rw [hy593]; with_reducible exact H) | (have H2_ := (Option.bind_some _ _).symm.trans H; rw [hy593]; with_reducible exact H2_) | (have H2_ := (Option.bind_some _ _).symm.trans H; with_reducible exact H2_) | with_reducible exact H | (rw [hy593]; exact H) | exact H
            have Ny593 := Aside0.mk hy593
            clear hy593
            by_cases c34 : x34_1 < (l1_6.length : Int)
            ·rw [if_pos c34] at H
             have c34b0 : decide (x34_1 < (l1_6.length : Int)) = true := decide_eq_true c34
             clear c34
             obtain ⟨ji35, hji35⟩ : ∃ j_ : Int, (mn (wrap64 ((rd l1_6 x34_1) + (ji31))) 1000000) = j_ := ⟨_, rfl⟩
             replace H : (if x34_1 < (x588006_1.length : Int) then (hinterlandref10_Haul.l0 k1 a2 a3 ji31 ((rd_T39 l0 a1_0).f2) (((rd_T39 l0 a1_0).f2).length : Int) (wrap64 (x34_1 + 1)) a1_0 a1_1 a1_2 l1_3 l1_4 l1_5 l1_6 a1_7 a1_8 a1_9 t569 t570 t571 y593 x588004_1 x588005_1 (x588006_1.set (x34_1 : Int).toNat (ji35)) t584 t585 t586) else (none)) = some (r1, r2, r3, r4, r5, r6, r7, r8, r9, r10, r11, r12) := by first | (rw [hji35] at H; exact H) | (simp only [hji35] at H ⊢; exact H)
             have hji35_ : (if 1000000 < (wrap64 ((rd l1_6 x34_1) + (ji31))) then 1000000 else (wrap64 ((rd l1_6 x34_1) + (ji31)))) = ji35 := hji35
             by_cases c36 : x34_1 < (x588006_1.length : Int)
             ·rw [if_pos c36] at H
              have c36b0 : decide (x34_1 < (x588006_1.length : Int)) = true := decide_eq_true c36
              clear c36
              obtain ⟨y595, hy595⟩ : ∃ y_ : List Int, y_ = (x588006_1.set (x34_1 : Int).toNat (ji35)) := ⟨_, rfl⟩
              replace H : (hinterlandref10_Haul.l0 k1 a2 a3 ji31 ((rd_T39 l0 a1_0).f2) (((rd_T39 l0 a1_0).f2).length : Int) (wrap64 (x34_1 + 1)) a1_0 a1_1 a1_2 l1_3 l1_4 l1_5 l1_6 a1_7 a1_8 a1_9 t569 t570 t571 y593 x588004_1 x588005_1 y595 t584 t585 t586) = some (r1, r2, r3, r4, r5, r6, r7, r8, r9, r10, r11, r12) := by first | (rw [hy595]; with_reducible exact H) | (have H2_ := (Option.bind_some _ _).symm.trans H; rw [hy595]; with_reducible exact H2_) | (have H2_ := (Option.bind_some _ _).symm.trans H; with_reducible exact H2_) | with_reducible exact H | (rw [hy595]; exact H) | exact H
              have Ny595 := Aside0.mk hy595
              clear hy595
              have H' := Aside0.mk H
              clear H
              have p589 : 0 ≤ (x34_1 : Int) := of_decide_eq_true tW_
              have q589 : x34_1 < (((rd_T39 l0 a1_0).f2).length : Int) := of_decide_eq_true tW_
              obtain ⟨ad589, e589, hx589_0, hx589_1⟩ := at_T41 HR588_2.out x34_1 p589 q589
              cases e589
              replace hx589_0 := bc_ HB hx589_0
              replace hx589_1 := bc_ HB hx589_1
              replace p589 := eq_true p589
              replace q589 := eq_true q589
              try go_wp2_with (first | ((with_reducible refine gate_dst (N := 15) rfl ?_); refine box_event ?hg (N := 15) ?hd (cs := #[.int .i64 0, .int .i64 0]) (t := 41) ?hr ?_; (case hd => rfl); (case hg => rfl); (case hr => first | (go_simp; done) | (go_simp; rfl)); intro gb590 hg w38 hbox hb; replace HO_588003 := Aside0.mk (Kd.R_below (dR_ HO_588003) hb); replace HO_588004 := Aside0.mk (Kd.R_below (dR_ HO_588004) hb); replace HO_588005 := Aside0.mk (Kd.R_below (dR_ HO_588005) hb); replace HO_588006 := Aside0.mk (Kd.R_below (dR_ HO_588006) hb); have BK590 := Aside0.mk (hbox); have GW590 := Aside0.mk ((dS_ hg (dL3_ HB GE566 GE567 GE587) : w.heap.size ≤ gb590)); have GE590 := Aside0.mk ((dS_ hg (dL3_ HB GE566 GE567 GE587) : w.heap.size ≤ gb590)); replace HB := Aside0.mk (below_step (dL3_ HB GE566 GE567 GE587) hb); have NB566_590 := Aside0.mk ((by rw [hg]; exact Nat.ne_of_lt (blk_lt (dB_ BK566)) : gb566 ≠ gb590)); have NB590_566 := Aside0.mk ((by rw [hg]; exact Nat.ne_of_gt (blk_lt (dB_ BK566)) : gb590 ≠ gb566)); replace BK566 := Aside0.mk (blk_below (g := gb566) (o := .cells #[.int .i64 a1_0, .int .i64 a1_1, .int .i64 a1_2, .slice A1_3 l1_3.length c1_3, .slice A1_4 l1_4.length c1_4, .slice A1_5 l1_5.length c1_5, .slice A1_6 l1_6.length c1_6, .int .i64 a1_7, .int .i64 a1_8, .bool a1_9] 25 (0, 0)) (dB_ BK566) hb); have NB567_590 := Aside0.mk ((by rw [hg]; exact Nat.ne_of_lt (blk_lt (dB_ BK567)) : gb567 ≠ gb590)); have NB590_567 := Aside0.mk ((by rw [hg]; exact Nat.ne_of_gt (blk_lt (dB_ BK567)) : gb590 ≠ gb567)); replace BK567 := Aside0.mk (blk_below (g := gb567) (o := .cells #[.int .i64 0, .int .i64 0, .int .i64 0, .slice none 0 0, .slice none 0 0, .slice none 0 0, .slice none 0 0, .int .i64 0, .int .i64 0, .bool false] 25 (0, 0)) (dB_ BK567) hb); have NB587_590 := Aside0.mk ((by rw [hg]; exact Nat.ne_of_lt (blk_lt (dB_ BK587)) : gb587 ≠ gb590)); have NB590_587 := Aside0.mk ((by rw [hg]; exact Nat.ne_of_gt (blk_lt (dB_ BK587)) : gb590 ≠ gb587)); replace BK587 := Aside0.mk (blk_below (g := gb587) (o := .cells #[.int .i64 t569, .int .i64 t570, .int .i64 t571, u588003, u588004, u588005, u588006, .int .i64 t584, .int .i64 t585, .bool t586] 25 (0, 0)) (dB_ BK587) hb); clear hb hbox hg; have hnb39 := NB590_566.out; have hnc39 := NB566_590.out; have hnb40 := NB590_567.out; have hnc40 := NB567_590.out; have hnb41 := NB590_587.out; have hnc41 := NB587_590.out; obtain ⟨hcz42_0, hcz42_1, hfz42_0, hfz42_1⟩ := cs2_ BK590.out) | ((with_reducible refine gate_store (t := 41) (p := 15) rfl ?_); refine store_event (t := 41) (p := 15) (v := ?vo_w43) (w1 := ((w38.setCell ⟨gb590, 0, none⟩ (.int .i64 ((rd_T41 ((rd_T39 l0 a1_0).f2) x34_1).f0))).setCell ⟨gb590, 1, none⟩ (.int .i64 ((rd_T41 ((rd_T39 l0 a1_0).f2) x34_1).f1)))) ?hg ?ho ?hn ?hr ?_; (case ho => rfl); (case hg => rfl); (case hn => rfl); (case hr => first | (go_simp; done) | (go_simp; rfl)); intro w43 hw; have n0_ : Aside0 (Kd.R (Kd.int .i64) 3 w43 w.heap.size (fun k_ => some k_ ≠ (u588004 : Value).ownBlock ∧ some k_ ≠ (u588005 : Value).ownBlock ∧ some k_ ≠ (u588006 : Value).ownBlock) u588003 x588003_1) := ⟨(by rw [hw]; exact (by (with_reducible repeat (first | apply Kd.R_alloc | apply Kd.R_drewN | apply Kd.R_drew)); exact Kd.R_mono (Kd.R_far (p := ⟨gb590, 1, none⟩) (Kd.R_far (p := ⟨gb590, 0, none⟩) (Kd.R_types HO_588003.out BK590.out (by decide)) (fun _ hk => hk.2) (.int .i64 ((rd_T41 ((rd_T39 l0 a1_0).f2) x34_1).f0))) (fun _ hk => hk.2) (.int .i64 ((rd_T41 ((rd_T39 l0 a1_0).f2) x34_1).f1))) (fun _ hk => ⟨hk.1.1, ⟨hk.1.2.1, hk.1.2.2⟩⟩)))⟩; have n1_ : Aside0 (Kd.R (Kd.int .i64) 3 w43 w.heap.size (fun k_ => some k_ ≠ (u588003 : Value).ownBlock ∧ some k_ ≠ (u588005 : Value).ownBlock ∧ some k_ ≠ (u588006 : Value).ownBlock) u588004 x588004_1) := ⟨(by rw [hw]; exact (by (with_reducible repeat (first | apply Kd.R_alloc | apply Kd.R_drewN | apply Kd.R_drew)); exact Kd.R_mono (Kd.R_far (p := ⟨gb590, 1, none⟩) (Kd.R_far (p := ⟨gb590, 0, none⟩) (Kd.R_types HO_588004.out BK590.out (by decide)) (fun _ hk => hk.2) (.int .i64 ((rd_T41 ((rd_T39 l0 a1_0).f2) x34_1).f0))) (fun _ hk => hk.2) (.int .i64 ((rd_T41 ((rd_T39 l0 a1_0).f2) x34_1).f1))) (fun _ hk => ⟨hk.1.1, ⟨hk.1.2.1, hk.1.2.2⟩⟩)))⟩; have n2_ : Aside0 (Kd.R (Kd.int .i64) 3 w43 w.heap.size (fun k_ => some k_ ≠ (u588003 : Value).ownBlock ∧ some k_ ≠ (u588004 : Value).ownBlock ∧ some k_ ≠ (u588006 : Value).ownBlock) u588005 x588005_1) := ⟨(by rw [hw]; exact (by (with_reducible repeat (first | apply Kd.R_alloc | apply Kd.R_drewN | apply Kd.R_drew)); exact Kd.R_mono (Kd.R_far (p := ⟨gb590, 1, none⟩) (Kd.R_far (p := ⟨gb590, 0, none⟩) (Kd.R_types HO_588005.out BK590.out (by decide)) (fun _ hk => hk.2) (.int .i64 ((rd_T41 ((rd_T39 l0 a1_0).f2) x34_1).f0))) (fun _ hk => hk.2) (.int .i64 ((rd_T41 ((rd_T39 l0 a1_0).f2) x34_1).f1))) (fun _ hk => ⟨hk.1.1, ⟨hk.1.2.1, hk.1.2.2⟩⟩)))⟩; have n3_ : Aside0 (Kd.R (Kd.int .i64) 3 w43 w.heap.size (fun k_ => some k_ ≠ (u588003 : Value).ownBlock ∧ some k_ ≠ (u588004 : Value).ownBlock ∧ some k_ ≠ (u588005 : Value).ownBlock) u588006 x588006_1) := ⟨(by rw [hw]; exact (by (with_reducible repeat (first | apply Kd.R_alloc | apply Kd.R_drewN | apply Kd.R_drew)); exact Kd.R_mono (Kd.R_far (p := ⟨gb590, 1, none⟩) (Kd.R_far (p := ⟨gb590, 0, none⟩) (Kd.R_types HO_588006.out BK590.out (by decide)) (fun _ hk => hk.2) (.int .i64 ((rd_T41 ((rd_T39 l0 a1_0).f2) x34_1).f0))) (fun _ hk => hk.2) (.int .i64 ((rd_T41 ((rd_T39 l0 a1_0).f2) x34_1).f1))) (fun _ hk => ⟨hk.1.1, ⟨hk.1.2.1, hk.1.2.2⟩⟩)))⟩; have n4_ : Aside0 (w43.heap[gb566]? = some (.cells #[.int .i64 a1_0, .int .i64 a1_1, .int .i64 a1_2, .slice A1_3 l1_3.length c1_3, .slice A1_4 l1_4.length c1_4, .slice A1_5 l1_5.length c1_5, .slice A1_6 l1_6.length c1_6, .int .i64 a1_7, .int .i64 a1_8, .bool a1_9] 25 (0, 0))) := ⟨(by rw [hw]; exact (by (with_reducible repeat (first | refine blk_drewN ?_ _ | refine blk_drew ?_ | refine blk_alloc ?_ _)); refine blk_far ?_ NB566_590.out _; (with_reducible repeat (first | refine blk_drewN ?_ _ | refine blk_drew ?_ | refine blk_alloc ?_ _)); refine blk_far ?_ NB566_590.out _; (with_reducible repeat (first | refine blk_drewN ?_ _ | refine blk_drew ?_ | refine blk_alloc ?_ _)); exact BK566.out))⟩; have n5_ : Aside0 (w43.heap[gb567]? = some (.cells #[.int .i64 0, .int .i64 0, .int .i64 0, .slice none 0 0, .slice none 0 0, .slice none 0 0, .slice none 0 0, .int .i64 0, .int .i64 0, .bool false] 25 (0, 0))) := ⟨(by rw [hw]; exact (by (with_reducible repeat (first | refine blk_drewN ?_ _ | refine blk_drew ?_ | refine blk_alloc ?_ _)); refine blk_far ?_ NB567_590.out _; (with_reducible repeat (first | refine blk_drewN ?_ _ | refine blk_drew ?_ | refine blk_alloc ?_ _)); refine blk_far ?_ NB567_590.out _; (with_reducible repeat (first | refine blk_drewN ?_ _ | refine blk_drew ?_ | refine blk_alloc ?_ _)); exact BK567.out))⟩; have n6_ : Aside0 (w43.heap[gb587]? = some (.cells #[.int .i64 t569, .int .i64 t570, .int .i64 t571, u588003, u588004, u588005, u588006, .int .i64 t584, .int .i64 t585, .bool t586] 25 (0, 0))) := ⟨(by rw [hw]; exact (by (with_reducible repeat (first | refine blk_drewN ?_ _ | refine blk_drew ?_ | refine blk_alloc ?_ _)); refine blk_far ?_ NB587_590.out _; (with_reducible repeat (first | refine blk_drewN ?_ _ | refine blk_drew ?_ | refine blk_alloc ?_ _)); refine blk_far ?_ NB587_590.out _; (with_reducible repeat (first | refine blk_drewN ?_ _ | refine blk_drew ?_ | refine blk_alloc ?_ _)); exact BK587.out))⟩; have n7_ : Aside0 (w43.heap[gb590]? = some (.cells #[.int .i64 ((rd_T41 ((rd_T39 l0 a1_0).f2) x34_1).f0), .int .i64 ((rd_T41 ((rd_T39 l0 a1_0).f2) x34_1).f1)] 41 (0, 0))) := ⟨(by rw [hw]; exact (by (with_reducible repeat (first | refine blk_drewN ?_ _ | refine blk_drew ?_ | refine blk_alloc ?_ _)); refine blk_put (cs := #[.int .i64 ((rd_T41 ((rd_T39 l0 a1_0).f2) x34_1).f0), .int .i64 0]) ?_ 1 _ rfl; (with_reducible repeat (first | refine blk_drewN ?_ _ | refine blk_drew ?_ | refine blk_alloc ?_ _)); refine blk_put (cs := #[.int .i64 0, .int .i64 0]) ?_ 0 _ rfl; (with_reducible repeat (first | refine blk_drewN ?_ _ | refine blk_drew ?_ | refine blk_alloc ?_ _)); exact BK590.out))⟩; have n8_ : Aside0 (Below w.heap.size w w43) := ⟨(by rw [hw]; exact (dL4_ HB GE566 GE567 GE587 GE590))⟩; clear hw; clear HO_588003; clear HO_588004; clear HO_588005; clear HO_588006; clear BK566; clear BK567; clear BK587; clear BK590; clear HB; have HO_588003 := n0_; have HO_588004 := n1_; have HO_588005 := n2_; have HO_588006 := n3_; have BK566 := n4_; have BK567 := n5_; have BK587 := n6_; have BK590 := n7_; have HB := n8_; clear n0_ n1_ n2_ n3_ n4_ n5_ n6_ n7_ n8_; obtain ⟨hcz44_0, hcz44_1, hfz44_0, hfz44_1⟩ := cs2_ BK590.out; have hnb45 := NB566_567.out; have hnc45 := NB567_566.out; have hnb46 := NB566_587.out; have hnc46 := NB587_566.out; obtain ⟨hcz47_0, hcz47_1, hcz47_2, hcz47_3, hcz47_4, hcz47_5, hcz47_6, hcz47_7, hcz47_8, hcz47_9, hfz47_0, hfz47_1, hfz47_2, hfz47_3, hfz47_4, hfz47_5, hfz47_6, hfz47_7, hfz47_8, hfz47_9⟩ := cs10_ BK566.out; have p591 : 0 ≤ (x34_1 : Int) := of_decide_eq_true tW_; have q591 : x34_1 < (l1_3.length : Int) := of_decide_eq_true tW_; obtain ⟨ad591, e591, hx591_0⟩ := Kd.at_int HR1_3.out x34_1 p591 q591; cases e591; replace hx591_0 := bc_ HB hx591_0; replace p591 := eq_true p591; replace q591 := eq_true q591; have hnb48 := NB587_567.out; have hnc48 := NB567_587.out; obtain ⟨hcz49_0, hcz49_1, hcz49_2, hcz49_3, hcz49_4, hcz49_5, hcz49_6, hcz49_7, hcz49_8, hcz49_9, hfz49_0, hfz49_1, hfz49_2, hfz49_3, hfz49_4, hfz49_5, hfz49_6, hfz49_7, hfz49_8, hfz49_9⟩ := cs10_ BK587.out; obtain ⟨Ao50, co50, eo50⟩ := Kd.R_slice HO_588003.out; subst eo50; have p592 : 0 ≤ (x34_1 : Int) := of_decide_eq_true tW_; have q592 : x34_1 < (x588003_1.length : Int) := of_decide_eq_true tW_; obtain ⟨ad592, e592, hx592_0⟩ := Kd.at_int (Kd.R_reads' HO_588003.out).2.2 x34_1 p592 q592; cases e592; replace p592 := eq_true p592; replace q592 := eq_true q592; have p33 : 0 ≤ (x34_1 : Int) := of_decide_eq_true tW_; have q33 : (x34_1 : Int) < ((x588003_1.length : Int) : Int) := of_decide_eq_true tW_; obtain ⟨go33, co33, eo33, gb33, gl33, cl33, HG33⟩ := Kd.R_form HO_588003.out (by omega); (first | cases eo33 | (injection eo33 with ea_ en_ ec_; (first | subst ea_ | (injection ea_ with ea_; subst ea_)); subst ec_; clear en_)); have GB33 := Aside0.mk gb33; have GG33 := Aside0.mk HG33; clear gb33 gl33 HG33; (first | simp only [add_plain] at hx592_0 | skip); obtain ⟨hx33_0, hf33_0⟩ := Kd.R_celln 0 HO_588003.out (x34_1 : Int) p33 q33; replace p33 := eq_true p33; replace q33 := eq_true q33; obtain ⟨hy51_, hz51_⟩ := Kd.R_celln 0 HO_588003.out (x34_1 : Int) (of_decide_eq_true tW_) (of_decide_eq_true tW_); have HP51 := Kd.R_putg HO_588003.out (x34_1 : Int) (wrap64 ((rd x588003_1 x34_1) - (ji31)))) | ((with_reducible refine gate_store (t := 3) (p := 57) rfl ?_); refine store_event (t := 3) (p := 57) (v := ?vo_w52) (w1 := (w43.setCell ⟨go33, (x34_1 : Int).toNat, none⟩ (.int .i64 (wrap64 ((rd x588003_1 x34_1) - (ji31)))))) ?hg ?ho ?hn ?hr ?_; (case ho => rfl); (case hg => rfl); (case hn => rfl); (case hr => first | (go_simp; done) | (go_simp; rfl)); intro w52 hw; have hg : w43.grownBy w52 (some go33) := (by rw [hw]; exact HP51.2); have hp_ : Kd.R (Kd.int .i64) 3 w52 w.heap.size (fun k_ => some k_ ≠ (u588004 : Value).ownBlock ∧ some k_ ≠ (u588005 : Value).ownBlock ∧ some k_ ≠ (u588006 : Value).ownBlock) (.slice (some ⟨go33, 0, none⟩) x588003_1.length co50) y593 := (by rw [hw, Ny593.out]; exact HP51.1); clear HP51; replace HO_588004 := Aside0.mk (Kd.R_after (v := (.slice (some ⟨go33, 0, none⟩) x588003_1.length co50)) (v1 := (.slice (some ⟨go33, 0, none⟩) x588003_1.length co50)) (ok := (fun k_ => some k_ ≠ (u588005 : Value).ownBlock ∧ some k_ ≠ (u588006 : Value).ownBlock)) (by (with_reducible repeat (first | apply Kd.R_alloc | apply Kd.R_drewN | apply Kd.R_drew)); exact Kd.R_mono HO_588004.out (fun _ hk => ⟨⟨hk.2.1, hk.2.2⟩, hk.1⟩)) hg (.inl rfl)); replace HO_588005 := Aside0.mk (Kd.R_after (v := (.slice (some ⟨go33, 0, none⟩) x588003_1.length co50)) (v1 := (.slice (some ⟨go33, 0, none⟩) x588003_1.length co50)) (ok := (fun k_ => some k_ ≠ (u588004 : Value).ownBlock ∧ some k_ ≠ (u588006 : Value).ownBlock)) (by (with_reducible repeat (first | apply Kd.R_alloc | apply Kd.R_drewN | apply Kd.R_drew)); exact Kd.R_mono HO_588005.out (fun _ hk => ⟨⟨hk.2.1, hk.2.2⟩, hk.1⟩)) hg (.inl rfl)); replace HO_588006 := Aside0.mk (Kd.R_after (v := (.slice (some ⟨go33, 0, none⟩) x588003_1.length co50)) (v1 := (.slice (some ⟨go33, 0, none⟩) x588003_1.length co50)) (ok := (fun k_ => some k_ ≠ (u588004 : Value).ownBlock ∧ some k_ ≠ (u588005 : Value).ownBlock)) (by (with_reducible repeat (first | apply Kd.R_alloc | apply Kd.R_drewN | apply Kd.R_drew)); exact Kd.R_mono HO_588006.out (fun _ hk => ⟨⟨hk.2.1, hk.2.2⟩, hk.1⟩)) hg (.inl rfl)); replace BK566 := Aside0.mk (blk_grown (g := gb566) (o := .cells #[.int .i64 a1_0, .int .i64 a1_1, .int .i64 a1_2, .slice (some ad591) l1_3.length c1_3, .slice A1_4 l1_4.length c1_4, .slice A1_5 l1_5.length c1_5, .slice A1_6 l1_6.length c1_6, .int .i64 a1_7, .int .i64 a1_8, .bool a1_9] 25 (0, 0)) (dB_ BK566) hg (Kd.R_ne HO_588003.out BK566.out (by decide))); replace BK567 := Aside0.mk (blk_grown (g := gb567) (o := .cells #[.int .i64 0, .int .i64 0, .int .i64 0, .slice none 0 0, .slice none 0 0, .slice none 0 0, .slice none 0 0, .int .i64 0, .int .i64 0, .bool false] 25 (0, 0)) (dB_ BK567) hg (Kd.R_ne HO_588003.out BK567.out (by decide))); replace BK587 := Aside0.mk (blk_grown (g := gb587) (o := .cells #[.int .i64 t569, .int .i64 t570, .int .i64 t571, .slice (some ⟨go33, 0, none⟩) x588003_1.length co50, u588004, u588005, u588006, .int .i64 t584, .int .i64 t585, .bool t586] 25 (0, 0)) (dB_ BK587) hg (Kd.R_ne HO_588003.out BK587.out (by decide))); replace BK590 := Aside0.mk (blk_grown (g := gb590) (o := .cells #[.int .i64 ((rd_T41 ((rd_T39 l0 a1_0).f2) x34_1).f0), .int .i64 ((rd_T41 ((rd_T39 l0 a1_0).f2) x34_1).f1)] 41 (0, 0)) (dB_ BK590) hg (Kd.R_ne HO_588003.out BK590.out (by decide))); replace HO_588003 := Aside0.mk (hp_); replace HB := Aside0.mk ((by rw [hw]; exact below_set (HB.out) GB33.out : Below w.heap.size w w52)); clear hg hw hp_))
              replace HO_588003 := Aside0.mk (Kd.R_drew HO_588003.out)
              replace HO_588004 := Aside0.mk (Kd.R_drew HO_588004.out)
              replace HO_588005 := Aside0.mk (Kd.R_drew HO_588005.out)
              replace HO_588006 := Aside0.mk (Kd.R_drew HO_588006.out)
              replace BK566 := Aside0.mk (blk_drew BK566.out)
              replace BK567 := Aside0.mk (blk_drew BK567.out)
              replace BK587 := Aside0.mk (blk_drew BK587.out)
              replace BK590 := Aside0.mk (blk_drew BK590.out)
              replace HB := Aside0.mk (below_drew1 HB.out)
              have p594 : 0 ≤ (x34_1 : Int) := of_decide_eq_true tW_
              have q594 : x34_1 < (l1_6.length : Int) := of_decide_eq_true tW_
              obtain ⟨ad594, e594, hx594_0⟩ := Kd.at_int HR1_6.out x34_1 p594 q594
              have hw594_0 := hx594_0
              cases e594
              replace hx594_0 := bc_ HB hx594_0
              replace p594 := eq_true p594
              replace q594 := eq_true q594
              have p37 : 0 ≤ (x34_1 : Int) := of_decide_eq_true tW_
              have q37 : (x34_1 : Int) < ((x588006_1.length : Int) : Int) := of_decide_eq_true tW_
              obtain ⟨go37, co37, eo37, gb37, gl37, cl37, HG37⟩ := Kd.R_form HO_588006.out (by omega)
              (first | cases eo37 | (injection eo37 with ea_ en_ ec_; (first | subst ea_ | (injection ea_ with ea_; subst ea_)); subst ec_; clear en_))
              have GB37 := Aside0.mk gb37
              have GG37 := Aside0.mk HG37
              clear gb37 gl37 HG37
              obtain ⟨hx37_0, hf37_0⟩ := Kd.R_celln 0 HO_588006.out (x34_1 : Int) p37 q37
              replace p37 := eq_true p37
              replace q37 := eq_true q37
              have HP54 := Kd.R_putn HO_588006.out (x34_1 : Int) ji35
              rw [← Ny595.out] at HP54
              have HQ54 := Aside0.mk HP54
              clear HP54
              refine start_ (n := 13) (S := fun w' => w'.cell? ⟨gb587, 0, none⟩ = some (.int .i64 t569) ∧ w'.cell? ⟨gb587, 1, none⟩ = some (.int .i64 t570) ∧ w'.cell? ⟨gb587, 2, none⟩ = some (.int .i64 t571) ∧ w'.cell? ⟨gb587, 3, none⟩ = some (.slice (some ⟨go33, 0, none⟩) x588003_1.length co50) ∧ w'.cell? ⟨gb587, 4, none⟩ = some (u588004) ∧ w'.cell? ⟨gb587, 5, none⟩ = some (u588005) ∧ w'.cell? ⟨gb587, 6, none⟩ = some (.slice (some ⟨go37, 0, none⟩) x588006_1.length co37) ∧ w'.cell? ⟨gb587, 7, none⟩ = some (.int .i64 t584) ∧ w'.cell? ⟨gb587, 8, none⟩ = some (.int .i64 t585) ∧ w'.cell? ⟨gb587, 9, none⟩ = some (.bool t586) ∧ w'.cell? ⟨gb566, 0, none⟩ = some (.int .i64 a1_0) ∧ w'.cell? ⟨gb566, 1, none⟩ = some (.int .i64 a1_1) ∧ w'.cell? ⟨gb566, 2, none⟩ = some (.int .i64 a1_2) ∧ w'.cell? ⟨gb566, 3, none⟩ = some (.slice (some ad591) l1_3.length c1_3) ∧ w'.cell? ⟨gb566, 4, none⟩ = some (.slice A1_4 l1_4.length c1_4) ∧ w'.cell? ⟨gb566, 5, none⟩ = some (.slice A1_5 l1_5.length c1_5) ∧ w'.cell? ⟨gb566, 6, none⟩ = some (.slice (some ad594) l1_6.length c1_6) ∧ w'.cell? ⟨gb566, 7, none⟩ = some (.int .i64 a1_7) ∧ w'.cell? ⟨gb566, 8, none⟩ = some (.int .i64 a1_8) ∧ w'.cell? ⟨gb566, 9, none⟩ = some (.bool a1_9) ∧ w'.cell? (ad594.add (x34_1).toNat) = some (.int .i64 (rd l1_6 x34_1))) (ds := [12]) #[false, false, false, false, false, false, false, false, false, false, false, false, false] (by kernel_rfl) rfl rfl ⟨(blk_cell BK587.out 0).trans rfl, (blk_cell BK587.out 1).trans rfl, (blk_cell BK587.out 2).trans rfl, (blk_cell BK587.out 3).trans rfl, (blk_cell BK587.out 4).trans rfl, (blk_cell BK587.out 5).trans rfl, (blk_cell BK587.out 6).trans rfl, (blk_cell BK587.out 7).trans rfl, (blk_cell BK587.out 8).trans rfl, (blk_cell BK587.out 9).trans rfl, (blk_cell BK566.out 0).trans rfl, (blk_cell BK566.out 1).trans rfl, (blk_cell BK566.out 2).trans rfl, (blk_cell BK566.out 3).trans rfl, (blk_cell BK566.out 4).trans rfl, (blk_cell BK566.out 5).trans rfl, (blk_cell BK566.out 6).trans rfl, (blk_cell BK566.out 7).trans rfl, (blk_cell BK566.out 8).trans rfl, (blk_cell BK566.out 9).trans rfl, ((HB.out.cell (World.block_lt_of_cell? w _ hw594_0)).trans hw594_0)⟩ (fun hHeld => ?_); refine with_tabW hinterlandref10_Haul.tab11 hinterlandref10_Haul.bits11 (fun HT_ HW_ => ?_)
              generalize w52.drew = w53 at HO_588003 HO_588004 HO_588005 HO_588006 BK566 BK567 BK587 BK590 HB GG37 HQ54 hf37_0 hx37_0 hx594_0 hHeld ⊢
              refine pure_ (i := 0) (N := some 58) (v := ?_) (a' := ?_) #[true, false, false, false, false, false, false, false, false, false, false, false, false] rfl rfl (any_of HT_.out (by kernel_rfl)) (fun _ _ _ h => h) (Or.inl ⟨by rfl, ?_⟩) ?_ ?_
              rotate_left
              ·intro w'
               go_simp
               with_reducible rfl
              rotate_left
              ·simp only [Act.put, sI_, s0_, sS_, i64_w, i32_w]
               rfl
              refine pure_ (i := 2) (N := some 60) (v := ?_) (a' := ?_) #[true, false, true, false, false, false, false, false, false, false, false, false, false] rfl rfl (any_of HT_.out (by kernel_rfl)) (fun _ _ _ h => h) (Or.inl ⟨by rfl, ?_⟩) ?_ ?_
              rotate_left
              ·intro w'
               go_simp
               with_reducible rfl
              rotate_left
              ·simp only [Act.put, sI_, s0_, sS_, i64_w, i32_w]
               rfl
              refine pure_ (i := 3) (N := some 61) (v := ?_) (a' := ?_) #[true, false, true, true, false, false, false, false, false, false, false, false, false] rfl rfl (any_of HT_.out (by kernel_rfl)) (fun _ _ _ h => h) (Or.inl ⟨by rfl, ?_⟩) ?_ ?_
              rotate_left
              ·intro w'
               go_simp
               with_reducible rfl
              rotate_left
              ·simp only [Act.put, sI_, s0_, sS_, i64_w, i32_w]
               rfl
              refine pure_ (i := 5) (N := some 63) (v := ?_) (a' := ?_) #[true, false, true, true, false, true, false, false, false, false, false, false, false] rfl rfl (any_of HT_.out (by kernel_rfl)) (fun _ _ _ h => h) (Or.inl ⟨by rfl, ?_⟩) ?_ ?_
              rotate_left
              ·intro w'
               go_simp
               with_reducible rfl
              rotate_left
              ·simp only [Act.put, sI_, s0_, sS_, i64_w, i32_w]
               rfl
              refine pure_ (i := 8) (N := some 66) (v := ?_) (a' := ?_) #[true, false, true, true, false, true, false, false, true, false, false, false, false] rfl rfl (any_of HT_.out (by kernel_rfl)) (fun _ _ _ h => h) (Or.inl ⟨by rfl, ?_⟩) ?_ ?_
              rotate_left
              ·intro w'
               go_simp
               with_reducible rfl
              rotate_left
              ·simp only [Act.put, sI_, s0_, sS_, i64_w, i32_w]
               rfl
              refine take_ (i := 1) (N := some 59) (v := ?_) (a' := ?_) #[true, true, true, true, false, true, false, false, true, false, false, false, false] rfl rfl (take_ofW HT_.out HW_.out (by kernel_rfl)) (fun _ _ _ h => h) (Or.inl ⟨by rfl, ?_⟩) hHeld ?_ ?_
              rotate_left
              ·rintro w' ⟨s0, s1, s2, s3, s4, s5, s6, s7, s8, s9, s10, s11, s12, s13, s14, s15, s16, s17, s18, s19, s20⟩
               go_simp
               with_reducible rfl
              rotate_left
              ·simp only [Act.put, sI_, s0_, sS_, i64_w, i32_w]
               rfl
              refine take_ (i := 4) (N := some 62) (v := ?_) (a' := ?_) #[true, true, true, true, true, true, false, false, true, false, false, false, false] rfl rfl (take_ofW HT_.out HW_.out (by kernel_rfl)) (fun _ _ _ h => h) (Or.inl ⟨by rfl, ?_⟩) hHeld ?_ ?_
              rotate_left
              ·rintro w' ⟨s0, s1, s2, s3, s4, s5, s6, s7, s8, s9, s10, s11, s12, s13, s14, s15, s16, s17, s18, s19, s20⟩
               go_simp
               with_reducible rfl
              rotate_left
              ·simp only [Act.put, sI_, s0_, sS_, i64_w, i32_w]
               rfl
              refine pure_ (i := 6) (N := some 64) (v := ?_) (a' := ?_) #[true, true, true, true, true, true, true, false, true, false, false, false, false] rfl rfl (any_of HT_.out (by kernel_rfl)) (fun _ _ _ h => h) (Or.inl ⟨by rfl, ?_⟩) ?_ ?_
              rotate_left
              ·intro w'
               go_simp
               with_reducible rfl
              rotate_left
              ·simp only [Act.put, sI_, s0_, sS_, i64_w, i32_w]
               rfl
              refine take_ (i := 7) (N := some 65) (v := ?_) (a' := ?_) #[true, true, true, true, true, true, true, true, true, false, false, false, false] rfl rfl (take_ofW HT_.out HW_.out (by kernel_rfl)) (fun _ _ _ h => h) (Or.inl ⟨by rfl, ?_⟩) hHeld ?_ ?_
              rotate_left
              ·rintro w' ⟨s0, s1, s2, s3, s4, s5, s6, s7, s8, s9, s10, s11, s12, s13, s14, s15, s16, s17, s18, s19, s20⟩
               go_simp
               with_reducible rfl
              rotate_left
              ·simp only [Act.put, sI_, s0_, sS_, i64_w, i32_w]
               rfl
              refine pure_ (i := 9) (N := some 67) (v := ?_) (a' := ?_) #[true, true, true, true, true, true, true, true, true, true, false, false, false] rfl rfl (any_of HT_.out (by kernel_rfl)) (fun _ _ _ h => h) (Or.inl ⟨by rfl, ?_⟩) ?_ ?_
              rotate_left
              ·intro w'
               go_simp
               with_reducible rfl
              rotate_left
              ·simp only [Act.put, sI_, s0_, sS_, i64_w, i32_w]
               rfl
              refine pure_ (i := 10) (N := some 68) (v := ?_) (a' := ?_) #[true, true, true, true, true, true, true, true, true, true, true, false, false] rfl rfl (any_of HT_.out (by kernel_rfl)) (fun _ _ _ h => h) (Or.inl ⟨by rfl, ?_⟩) ?_ ?_
              rotate_left
              ·intro w'
               go_simp
               with_reducible rfl
              rotate_left
              ·simp only [Act.put, sI_, s0_, sS_, i64_w, i32_w]
               rfl
              refine pure_ (i := 11) (N := some 69) (v := ?_) (a' := ?_) #[true, true, true, true, true, true, true, true, true, true, true, true, false] rfl rfl (any_of HT_.out (by kernel_rfl)) (fun _ _ _ h => h) (Or.inl ⟨by rfl, ?_⟩) ?_ ?_
              rotate_left
              ·intro w'
               go_simp
               with_reducible rfl
              rotate_left
              ·simp only [Act.put, sI_, s0_, sS_, i64_w, i32_w]
               rfl
              refine last_ (i := 12) (N := none) #[true, true, true, true, true, true, true, true, true, true, true, true, true] rfl rfl (one_of HT_.out (by kernel_rfl)) (by decide) (fun K hK => ?_)
              refine skip_ (w1 := ?_) (by rfl) rfl ?_ ?_
              rotate_left
              ·go_simp
               rfl
              refine hK.out _ _ ?_
              clear hK K
              refine done_ (done_of HT_.out (by kernel_rfl)) ?_
              try go_wp2
              go_roundg k1
              case measure => have := HK1.out; omega
              case rel => exact ⟨(ji31), (wrap64 (x34_1 + 1)), (y593), (x588004_1), (x588005_1), (y595), (.slice (some ⟨go33, 0, none⟩) x588003_1.length co50), (u588004), (u588005), (.slice (some ⟨go37, 0, none⟩) x588006_1.length co37), (by first | rfl | (simp; done) | (simp only [← hji31]; rw [shl_one_small _ (by assumption) (by omega)]; done) | (simp only [← hji31] <;> (first | rfl | simp)) | (simp [*]; done) | (refine congrArg (Value.int .i64) ?_; unfold wrap64; omega) | (simp only [shl_one_small _ (by assumption) (by omega)]; done) | (simp [*]; rw [shl_one_small _ (by assumption) (by omega)]; done)), tS_, H', ⟨by have := HK1.out; omega⟩, ⟨by (with_reducible repeat (first | apply Kd.R_alloc | apply Kd.R_drewN | apply Kd.R_drew)); exact Kd.R_mono (Kd.R_far (p := ⟨go37, (x34_1 : Int).toNat, none⟩) (Kd.R_mono HO_588003.out (fun k_ hk => (⟨hk, fun e_ => hk.2.2 (by rw [e_]; rfl)⟩ : _ ∧ k_ ≠ go37))) (fun _ hk => hk.2) (.int .i64 ji35)) (fun _ hk => ⟨hk.1.1, ⟨hk.1.2.1, hk.1.2.2⟩⟩)⟩, ⟨by (with_reducible repeat (first | apply Kd.R_alloc | apply Kd.R_drewN | apply Kd.R_drew)); exact Kd.R_mono (Kd.R_far (p := ⟨go37, (x34_1 : Int).toNat, none⟩) (Kd.R_mono HO_588004.out (fun k_ hk => (⟨hk, fun e_ => hk.1.2 (by rw [e_]; rfl)⟩ : _ ∧ k_ ≠ go37))) (fun _ hk => hk.2) (.int .i64 ji35)) (fun _ hk => ⟨hk.1.2, ⟨hk.1.1.1, hk.1.1.2⟩⟩)⟩, ⟨by (with_reducible repeat (first | apply Kd.R_alloc | apply Kd.R_drewN | apply Kd.R_drew)); exact Kd.R_mono (Kd.R_far (p := ⟨go37, (x34_1 : Int).toNat, none⟩) (Kd.R_mono HO_588005.out (fun k_ hk => (⟨hk, fun e_ => hk.1.2 (by rw [e_]; rfl)⟩ : _ ∧ k_ ≠ go37))) (fun _ hk => hk.2) (.int .i64 ji35)) (fun _ hk => ⟨hk.1.2, ⟨hk.1.1.1, hk.1.1.2⟩⟩)⟩, ⟨by (with_reducible repeat (first | apply Kd.R_alloc | apply Kd.R_drewN | apply Kd.R_drew)); exact Kd.R_mono HQ54.out (fun _ hk => ⟨hk.2, ⟨hk.1.1, hk.1.2⟩⟩)⟩, ⟨by (with_reducible repeat (first | refine blk_drewN ?_ _ | refine blk_drew ?_ | refine blk_alloc ?_ _)); refine blk_far ?_ (by have h_ := Kd.R_ne HO_588006.out BK566.out (by decide); intro e_; exact h_ (by rw [e_]; rfl)) _; (with_reducible repeat (first | refine blk_drewN ?_ _ | refine blk_drew ?_ | refine blk_alloc ?_ _)); exact BK566.out⟩, ⟨by (with_reducible repeat (first | refine blk_drewN ?_ _ | refine blk_drew ?_ | refine blk_alloc ?_ _)); refine blk_far ?_ (by have h_ := Kd.R_ne HO_588006.out BK567.out (by decide); intro e_; exact h_ (by rw [e_]; rfl)) _; (with_reducible repeat (first | refine blk_drewN ?_ _ | refine blk_drew ?_ | refine blk_alloc ?_ _)); exact BK567.out⟩, ⟨by (with_reducible repeat (first | refine blk_drewN ?_ _ | refine blk_drew ?_ | refine blk_alloc ?_ _)); refine blk_far ?_ (by have h_ := Kd.R_ne HO_588006.out BK587.out (by decide); intro e_; exact h_ (by rw [e_]; rfl)) _; (with_reducible repeat (first | refine blk_drewN ?_ _ | refine blk_drew ?_ | refine blk_alloc ?_ _)); exact BK587.out⟩, ⟨by repeat (first | (with_reducible first | exact HB.out | apply below_alloc | apply pw_below_drewN | apply below_drew1 | refine below_set ?_ GB37.out | refine below_set ?_ GE566.out | refine below_set ?_ GE567.out | refine below_set ?_ GE587.out | refine below_set ?_ GE590.out) | exact HB.out)⟩⟩
             ·rw [if_neg c36] at H
              exact absurd H (by simp)
            ·rw [if_neg c34] at H
             exact absurd H (by simp)
           ·rw [if_neg c32] at H
            exact absurd H (by simp)
          ·rw [if_neg c30] at H
           exact absurd H (by simp)
         ·rw [if_neg c29] at H
          have c29b0 : (((rd_T41 ((rd_T39 l0 a1_0).f2) x34_1).f0) == a2) = false := beq_eq_false_iff_ne.mpr c29
          have c29b1 : (((rd_T41 ((rd_T39 l0 a1_0).f2) x34_1).f0) != a2) = true := bne_iff_ne.mpr c29
          have H' := Aside0.mk H
          clear H
          have p589 : 0 ≤ (x34_1 : Int) := of_decide_eq_true tW_
          have q589 : x34_1 < (((rd_T39 l0 a1_0).f2).length : Int) := of_decide_eq_true tW_
          obtain ⟨ad589, e589, hx589_0, hx589_1⟩ := at_T41 HR588_2.out x34_1 p589 q589
          cases e589
          replace hx589_0 := bc_ HB hx589_0
          replace hx589_1 := bc_ HB hx589_1
          replace p589 := eq_true p589
          replace q589 := eq_true q589
          go_wp2_with (first | ((with_reducible refine gate_dst (N := 15) rfl ?_); refine box_event ?hg (N := 15) ?hd (cs := #[.int .i64 0, .int .i64 0]) (t := 41) ?hr ?_; (case hd => rfl); (case hg => rfl); (case hr => first | (go_simp; done) | (go_simp; rfl)); intro gb590 hg w55 hbox hb; replace HO_588003 := Aside0.mk (Kd.R_below (dR_ HO_588003) hb); replace HO_588004 := Aside0.mk (Kd.R_below (dR_ HO_588004) hb); replace HO_588005 := Aside0.mk (Kd.R_below (dR_ HO_588005) hb); replace HO_588006 := Aside0.mk (Kd.R_below (dR_ HO_588006) hb); have BK590 := Aside0.mk (hbox); have GW590 := Aside0.mk ((dS_ hg (dL3_ HB GE566 GE567 GE587) : w.heap.size ≤ gb590)); have GE590 := Aside0.mk ((dS_ hg (dL3_ HB GE566 GE567 GE587) : w.heap.size ≤ gb590)); replace HB := Aside0.mk (below_step (dL3_ HB GE566 GE567 GE587) hb); have NB566_590 := Aside0.mk ((by rw [hg]; exact Nat.ne_of_lt (blk_lt (dB_ BK566)) : gb566 ≠ gb590)); have NB590_566 := Aside0.mk ((by rw [hg]; exact Nat.ne_of_gt (blk_lt (dB_ BK566)) : gb590 ≠ gb566)); replace BK566 := Aside0.mk (blk_below (g := gb566) (o := .cells #[.int .i64 a1_0, .int .i64 a1_1, .int .i64 a1_2, .slice A1_3 l1_3.length c1_3, .slice A1_4 l1_4.length c1_4, .slice A1_5 l1_5.length c1_5, .slice A1_6 l1_6.length c1_6, .int .i64 a1_7, .int .i64 a1_8, .bool a1_9] 25 (0, 0)) (dB_ BK566) hb); have NB567_590 := Aside0.mk ((by rw [hg]; exact Nat.ne_of_lt (blk_lt (dB_ BK567)) : gb567 ≠ gb590)); have NB590_567 := Aside0.mk ((by rw [hg]; exact Nat.ne_of_gt (blk_lt (dB_ BK567)) : gb590 ≠ gb567)); replace BK567 := Aside0.mk (blk_below (g := gb567) (o := .cells #[.int .i64 0, .int .i64 0, .int .i64 0, .slice none 0 0, .slice none 0 0, .slice none 0 0, .slice none 0 0, .int .i64 0, .int .i64 0, .bool false] 25 (0, 0)) (dB_ BK567) hb); have NB587_590 := Aside0.mk ((by rw [hg]; exact Nat.ne_of_lt (blk_lt (dB_ BK587)) : gb587 ≠ gb590)); have NB590_587 := Aside0.mk ((by rw [hg]; exact Nat.ne_of_gt (blk_lt (dB_ BK587)) : gb590 ≠ gb587)); replace BK587 := Aside0.mk (blk_below (g := gb587) (o := .cells #[.int .i64 t569, .int .i64 t570, .int .i64 t571, u588003, u588004, u588005, u588006, .int .i64 t584, .int .i64 t585, .bool t586] 25 (0, 0)) (dB_ BK587) hb); clear hb hbox hg; have hnb56 := NB590_566.out; have hnc56 := NB566_590.out; have hnb57 := NB590_567.out; have hnc57 := NB567_590.out; have hnb58 := NB590_587.out; have hnc58 := NB587_590.out; obtain ⟨hcz59_0, hcz59_1, hfz59_0, hfz59_1⟩ := cs2_ BK590.out))
          go_roundg k1
          case measure => have := HK1.out; omega
          case rel => exact ⟨(x13_1), (wrap64 (x34_1 + 1)), (x588003_1), (x588004_1), (x588005_1), (x588006_1), (u588003), (u588004), (u588005), (u588006), tS_, tS_, H', ⟨by have := HK1.out; omega⟩, ⟨by (with_reducible repeat (first | apply Kd.R_alloc | apply Kd.R_drewN | apply Kd.R_drew)); exact Kd.R_mono (Kd.R_far (p := ⟨gb590, 1, none⟩) (Kd.R_far (p := ⟨gb590, 0, none⟩) (Kd.R_types HO_588003.out BK590.out (by decide)) (fun _ hk => hk.2) (.int .i64 ((rd_T41 ((rd_T39 l0 a1_0).f2) x34_1).f0))) (fun _ hk => hk.2) (.int .i64 ((rd_T41 ((rd_T39 l0 a1_0).f2) x34_1).f1))) (fun _ hk => ⟨hk.1.1, ⟨hk.1.2.1, hk.1.2.2⟩⟩)⟩, ⟨by (with_reducible repeat (first | apply Kd.R_alloc | apply Kd.R_drewN | apply Kd.R_drew)); exact Kd.R_mono (Kd.R_far (p := ⟨gb590, 1, none⟩) (Kd.R_far (p := ⟨gb590, 0, none⟩) (Kd.R_types HO_588004.out BK590.out (by decide)) (fun _ hk => hk.2) (.int .i64 ((rd_T41 ((rd_T39 l0 a1_0).f2) x34_1).f0))) (fun _ hk => hk.2) (.int .i64 ((rd_T41 ((rd_T39 l0 a1_0).f2) x34_1).f1))) (fun _ hk => ⟨hk.1.1, ⟨hk.1.2.1, hk.1.2.2⟩⟩)⟩, ⟨by (with_reducible repeat (first | apply Kd.R_alloc | apply Kd.R_drewN | apply Kd.R_drew)); exact Kd.R_mono (Kd.R_far (p := ⟨gb590, 1, none⟩) (Kd.R_far (p := ⟨gb590, 0, none⟩) (Kd.R_types HO_588005.out BK590.out (by decide)) (fun _ hk => hk.2) (.int .i64 ((rd_T41 ((rd_T39 l0 a1_0).f2) x34_1).f0))) (fun _ hk => hk.2) (.int .i64 ((rd_T41 ((rd_T39 l0 a1_0).f2) x34_1).f1))) (fun _ hk => ⟨hk.1.1, ⟨hk.1.2.1, hk.1.2.2⟩⟩)⟩, ⟨by (with_reducible repeat (first | apply Kd.R_alloc | apply Kd.R_drewN | apply Kd.R_drew)); exact Kd.R_mono (Kd.R_far (p := ⟨gb590, 1, none⟩) (Kd.R_far (p := ⟨gb590, 0, none⟩) (Kd.R_types HO_588006.out BK590.out (by decide)) (fun _ hk => hk.2) (.int .i64 ((rd_T41 ((rd_T39 l0 a1_0).f2) x34_1).f0))) (fun _ hk => hk.2) (.int .i64 ((rd_T41 ((rd_T39 l0 a1_0).f2) x34_1).f1))) (fun _ hk => ⟨hk.1.1, ⟨hk.1.2.1, hk.1.2.2⟩⟩)⟩, ⟨by (with_reducible repeat (first | refine blk_drewN ?_ _ | refine blk_drew ?_ | refine blk_alloc ?_ _)); refine blk_far ?_ NB566_590.out _; (with_reducible repeat (first | refine blk_drewN ?_ _ | refine blk_drew ?_ | refine blk_alloc ?_ _)); refine blk_far ?_ NB566_590.out _; (with_reducible repeat (first | refine blk_drewN ?_ _ | refine blk_drew ?_ | refine blk_alloc ?_ _)); exact BK566.out⟩, ⟨by (with_reducible repeat (first | refine blk_drewN ?_ _ | refine blk_drew ?_ | refine blk_alloc ?_ _)); refine blk_far ?_ NB567_590.out _; (with_reducible repeat (first | refine blk_drewN ?_ _ | refine blk_drew ?_ | refine blk_alloc ?_ _)); refine blk_far ?_ NB567_590.out _; (with_reducible repeat (first | refine blk_drewN ?_ _ | refine blk_drew ?_ | refine blk_alloc ?_ _)); exact BK567.out⟩, ⟨by (with_reducible repeat (first | refine blk_drewN ?_ _ | refine blk_drew ?_ | refine blk_alloc ?_ _)); refine blk_far ?_ NB587_590.out _; (with_reducible repeat (first | refine blk_drewN ?_ _ | refine blk_drew ?_ | refine blk_alloc ?_ _)); refine blk_far ?_ NB587_590.out _; (with_reducible repeat (first | refine blk_drewN ?_ _ | refine blk_drew ?_ | refine blk_alloc ?_ _)); exact BK587.out⟩, ⟨dL4_ HB GE566 GE567 GE587 GE590⟩⟩
        ·rw [if_neg c28] at H
         exact absurd H (by simp)
       ·rw [if_neg c27] at H
        exact absurd H (by simp)
      ·rw [if_neg c26] at H
       have c26b0 : decide (x34_1 < (((rd_T39 l0 a1_0).f2).length : Int)) = false := decide_eq_false c26
       clear c26
       simp only [Option.some.injEq, Prod.mk.injEq] at H
       obtain ⟨rfl, rfl, rfl, rfl, rfl, rfl, rfl, rfl, rfl, rfl, rfl, rfl⟩ := H
       have hnb60 := NB587_566.out
       have hnc60 := NB566_587.out
       have hnb61 := NB587_567.out
       have hnc61 := NB567_587.out
       obtain ⟨hcz62_0, hcz62_1, hcz62_2, hcz62_3, hcz62_4, hcz62_5, hcz62_6, hcz62_7, hcz62_8, hcz62_9, hfz62_0, hfz62_1, hfz62_2, hfz62_3, hfz62_4, hfz62_5, hfz62_6, hfz62_7, hfz62_8, hfz62_9⟩ := cs10_ BK587.out
       have hnb63 := NB567_566.out
       have hnc63 := NB566_567.out
       obtain ⟨hcz64_0, hcz64_1, hcz64_2, hcz64_3, hcz64_4, hcz64_5, hcz64_6, hcz64_7, hcz64_8, hcz64_9, hfz64_0, hfz64_1, hfz64_2, hfz64_3, hfz64_4, hfz64_5, hfz64_6, hfz64_7, hfz64_8, hfz64_9⟩ := cs10_ BK567.out
       obtain ⟨Ao65, co65, eo65⟩ := Kd.R_slice HO_588003.out
       subst eo65
       obtain ⟨Ao66, co66, eo66⟩ := Kd.R_slice HO_588004.out
       subst eo66
       obtain ⟨Ao67, co67, eo67⟩ := Kd.R_slice HO_588005.out
       subst eo67
       obtain ⟨Ao68, co68, eo68⟩ := Kd.R_slice HO_588006.out
       subst eo68
       go_wp2
       refine bodyPost_ret (results_ctt rfl _ _ gb567 25 #[.int .i64 t569, .int .i64 t570, .int .i64 t571, .slice Ao65 x588003_1.length co65, .slice Ao66 x588004_1.length co66, .slice Ao67 x588005_1.length co67, .slice Ao68 x588006_1.length co68, .int .i64 t584, .int .i64 t585, .bool t586] (0, 0) _ rfl (dP10_ BK567) Try.underlying25 rfl (by kernel_rfl)) rfl ?_
       exact ⟨_, _, _, _, tE_, by (with_reducible repeat (first | apply Kd.R_alloc | apply Kd.R_drewN | apply Kd.R_drew)); exact Kd.R_mono (far10_ (Kd.R_types HO_588003.out BK567.out (by decide)) gb567 (fun _ hk => hk.2) (.int .i64 t569) (.int .i64 t570) (.int .i64 t571) (.slice Ao65 x588003_1.length co65) (.slice Ao66 x588004_1.length co66) (.slice Ao67 x588005_1.length co67) (.slice Ao68 x588006_1.length co68) (.int .i64 t584) (.int .i64 t585) (.bool t586)) (fun _ hk => ⟨hk.1.1, ⟨hk.1.2.1, hk.1.2.2⟩⟩), by (with_reducible repeat (first | apply Kd.R_alloc | apply Kd.R_drewN | apply Kd.R_drew)); exact Kd.R_mono (far10_ (Kd.R_types HO_588004.out BK567.out (by decide)) gb567 (fun _ hk => hk.2) (.int .i64 t569) (.int .i64 t570) (.int .i64 t571) (.slice Ao65 x588003_1.length co65) (.slice Ao66 x588004_1.length co66) (.slice Ao67 x588005_1.length co67) (.slice Ao68 x588006_1.length co68) (.int .i64 t584) (.int .i64 t585) (.bool t586)) (fun _ hk => ⟨hk.1.1, ⟨hk.1.2.1, hk.1.2.2⟩⟩), by (with_reducible repeat (first | apply Kd.R_alloc | apply Kd.R_drewN | apply Kd.R_drew)); exact Kd.R_mono (far10_ (Kd.R_types HO_588005.out BK567.out (by decide)) gb567 (fun _ hk => hk.2) (.int .i64 t569) (.int .i64 t570) (.int .i64 t571) (.slice Ao65 x588003_1.length co65) (.slice Ao66 x588004_1.length co66) (.slice Ao67 x588005_1.length co67) (.slice Ao68 x588006_1.length co68) (.int .i64 t584) (.int .i64 t585) (.bool t586)) (fun _ hk => ⟨hk.1.1, ⟨hk.1.2.1, hk.1.2.2⟩⟩), by (with_reducible repeat (first | apply Kd.R_alloc | apply Kd.R_drewN | apply Kd.R_drew)); exact Kd.R_mono (far10_ (Kd.R_types HO_588006.out BK567.out (by decide)) gb567 (fun _ hk => hk.2) (.int .i64 t569) (.int .i64 t570) (.int .i64 t571) (.slice Ao65 x588003_1.length co65) (.slice Ao66 x588004_1.length co66) (.slice Ao67 x588005_1.length co67) (.slice Ao68 x588006_1.length co68) (.int .i64 t584) (.int .i64 t585) (.bool t586)) (fun _ hk => ⟨hk.1.1, ⟨hk.1.2.1, hk.1.2.2⟩⟩), dL3_ HB GE566 GE567 GE587⟩
   ·rw [if_neg c9] at H
    exact absurd H (by simp)
  ·rw [if_neg c8] at H
   exact absurd H (by simp)
 ·rw [if_neg c6] at H
  have c6b0 : (t568 == 0) = false := beq_eq_false_iff_ne.mpr c6
  have c6b1 : (t568 != 0) = true := bne_iff_ne.mpr c6
  simp only [Option.some.injEq, Prod.mk.injEq] at H
  obtain ⟨rfl, rfl, rfl, rfl, rfl, rfl, rfl, rfl, rfl, rfl, rfl, rfl⟩ := H
  go_enter Try.func23, Try.ntmps23
  go_wp2_with (first | ((with_reducible refine gate_dst (N := 5) rfl ?_); refine box_event ?hg (N := 5) ?hd (cs := #[.int .i64 a1_0, .int .i64 a1_1, .int .i64 a1_2, .slice A1_3 l1_3.length c1_3, .slice A1_4 l1_4.length c1_4, .slice A1_5 l1_5.length c1_5, .slice A1_6 l1_6.length c1_6, .int .i64 a1_7, .int .i64 a1_8, .bool a1_9]) (t := 25) ?hr ?_; (case hd => rfl); (case hg => rfl); (case hr => first | (go_simp; done) | (go_simp; rfl)); intro gb566 hg w69 hbox hb; have BK566 := Aside0.mk (hbox); have GW566 := Aside0.mk ((dS_ hg (dL_ HB) : w.heap.size ≤ gb566)); have GE566 := Aside0.mk ((dS_ hg (dL_ HB) : w.heap.size ≤ gb566)); replace HB := Aside0.mk (below_step (dL_ HB) hb); clear hb hbox hg) | ((with_reducible refine gate_dst (N := 8) rfl ?_); refine box_event ?hg (N := 8) ?hd (cs := #[.int .i64 0, .int .i64 0, .int .i64 0, .slice none 0 0, .slice none 0 0, .slice none 0 0, .slice none 0 0, .int .i64 0, .int .i64 0, .bool false]) (t := 25) ?hr ?_; (case hd => rfl); (case hg => rfl); (case hr => first | (go_simp; done) | (go_simp; rfl)); intro gb567 hg w70 hbox hb; have BK567 := Aside0.mk (hbox); have GW567 := Aside0.mk ((dS_ hg (dL1_ HB GE566) : w.heap.size ≤ gb567)); have GE567 := Aside0.mk ((dS_ hg (dL1_ HB GE566) : w.heap.size ≤ gb567)); replace HB := Aside0.mk (below_step (dL1_ HB GE566) hb); have NB566_567 := Aside0.mk ((by rw [hg]; exact Nat.ne_of_lt (blk_lt (dB_ BK566)) : gb566 ≠ gb567)); have NB567_566 := Aside0.mk ((by rw [hg]; exact Nat.ne_of_gt (blk_lt (dB_ BK566)) : gb567 ≠ gb566)); replace BK566 := Aside0.mk (blk_below (g := gb566) (o := .cells #[.int .i64 a1_0, .int .i64 a1_1, .int .i64 a1_2, .slice A1_3 l1_3.length c1_3, .slice A1_4 l1_4.length c1_4, .slice A1_5 l1_5.length c1_5, .slice A1_6 l1_6.length c1_6, .int .i64 a1_7, .int .i64 a1_8, .bool a1_9] 25 (0, 0)) (dB_ BK566) hb); clear hb hbox hg; have hnb71 := NB566_567.out; have hnc71 := NB567_566.out; obtain ⟨hcz72_0, hcz72_1, hcz72_2, hcz72_3, hcz72_4, hcz72_5, hcz72_6, hcz72_7, hcz72_8, hcz72_9, hfz72_0, hfz72_1, hfz72_2, hfz72_3, hfz72_4, hfz72_5, hfz72_6, hfz72_7, hfz72_8, hfz72_9⟩ := cs10_ BK566.out) | ((with_reducible refine gate_callee (f := 40) rfl ?_); refine goesL_ (some 20) rfl rfl Try.func40 (by kernel_rfl) rfl #[.slice A0 l0.length c0, .agg #[.int .i64 a1_0, .int .i64 a1_1, .int .i64 a1_2, .slice A1_3 l1_3.length c1_3, .slice A1_4 l1_4.length c1_4, .slice A1_5 l1_5.length c1_5, .slice A1_6 l1_6.length c1_6, .int .i64 a1_7, .int .i64 a1_8, .bool a1_9], .int .i64 a2, .int .i64 a3] rfl tA_ ?_; (with_reducible refine (hinterlandref10_asked.calls k _ _ l0 a1_0 a1_1 a1_2 _ _ l1_3 _ _ l1_4 _ _ l1_5 _ _ l1_6 a1_7 a1_8 a1_9 a2 a3 t568 _ ?side1 ?side2 ?side3 ?side4 ?side5 ?side6 ?side7 ?side8 ?side9 ?side10 A5.out).mono ?_); (case side1 => exact dC_ HR0 HB); (case side2 => exact HC0.out); (case side3 => exact dC_ HR1_3 HB); (case side4 => exact HC1_3.out); (case side5 => exact dC_ HR1_4 HB); (case side6 => exact HC1_4.out); (case side7 => exact dC_ HR1_5 HB); (case side8 => exact HC1_5.out); (case side9 => exact dC_ HR1_6 HB); (case side10 => exact HC1_6.out); rintro e w73 ⟨rfl, hb⟩; refine ⟨_, rfl, ?_⟩; replace BK566 := Aside0.mk (blk_below (g := gb566) (o := .cells #[.int .i64 a1_0, .int .i64 a1_1, .int .i64 a1_2, .slice A1_3 l1_3.length c1_3, .slice A1_4 l1_4.length c1_4, .slice A1_5 l1_5.length c1_5, .slice A1_6 l1_6.length c1_6, .int .i64 a1_7, .int .i64 a1_8, .bool a1_9] 25 (0, 0)) (dB_ BK566) hb); replace BK567 := Aside0.mk (blk_below (g := gb567) (o := .cells #[.int .i64 0, .int .i64 0, .int .i64 0, .slice none 0 0, .slice none 0 0, .slice none 0 0, .slice none 0 0, .int .i64 0, .int .i64 0, .bool false] 25 (0, 0)) (dB_ BK567) hb); replace HB := Aside0.mk (below_step (dL2_ HB GE566 GE567) hb); obtain ⟨hcz74_0, hcz74_1, hcz74_2, hcz74_3, hcz74_4, hcz74_5, hcz74_6, hcz74_7, hcz74_8, hcz74_9, hfz74_0, hfz74_1, hfz74_2, hfz74_3, hfz74_4, hfz74_5, hfz74_6, hfz74_7, hfz74_8, hfz74_9⟩ := cs10_ BK567.out))
  refine bodyPost_ret (results_ctt rfl _ _ gb567 25 #[.int .i64 0, .int .i64 0, .int .i64 0, .slice none 0 0, .slice none 0 0, .slice none 0 0, .slice none 0 0, .int .i64 0, .int .i64 0, .bool false] (0, 0) _ rfl (dP10_ BK567) Try.underlying25 rfl (by kernel_rfl)) rfl ?_
  exact ⟨_, _, _, _, tE_, by first | exact Kd.R_nil _ _ _ _ _ | exact Kd.N_nil _ _ _ _ _ | exact Kd.V_nil _ _ _ _ _ | exact Kd.Q_nil _ _ _ _ _ | exact Kd.S_nil _ _ _ _ _, by first | exact Kd.R_nil _ _ _ _ _ | exact Kd.N_nil _ _ _ _ _ | exact Kd.V_nil _ _ _ _ _ | exact Kd.Q_nil _ _ _ _ _ | exact Kd.S_nil _ _ _ _ _, by first | exact Kd.R_nil _ _ _ _ _ | exact Kd.N_nil _ _ _ _ _ | exact Kd.V_nil _ _ _ _ _ | exact Kd.Q_nil _ _ _ _ _ | exact Kd.S_nil _ _ _ _ _, by first | exact Kd.R_nil _ _ _ _ _ | exact Kd.N_nil _ _ _ _ _ | exact Kd.V_nil _ _ _ _ _ | exact Kd.Q_nil _ _ _ _ _ | exact Kd.S_nil _ _ _ _ _, dL2_ HB GE566 GE567⟩

end Go.Proofs.Ytnkgelnkoljgdaa.Q
