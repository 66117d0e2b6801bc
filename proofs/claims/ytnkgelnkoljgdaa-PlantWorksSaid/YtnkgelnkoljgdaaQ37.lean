-- PRINTED by print.py (a twelfth state) out of the translation. Not trusted: Lean checks it.
import Derived.Test.YtnkgelnkoljgdaaPrs
import Derived.Test.YtnkgelnkoljgdaaQ0
import Derived.Test.YtnkgelnkoljgdaaQ19
import Derived.Test.YtnkgelnkoljgdaaQ26
namespace Go.Proofs.Ytnkgelnkoljgdaa.Q
open Go.RowKit Go.Proofs.YtnkgelnkoljgdaaPrs Go.Proofs.YtnkgelnkoljgdaaOwn Go.Proofs.YtnkgelnkoljgdaaW.PrintWords Go.Proofs.YtnkgelnkoljgdaaW.PrintLast Go.Proofs.YtnkgelnkoljgdaaW.PrintMore
open List renaming setIfInBounds_toArray → sI_, set_cons_zero → s0_, set_cons_succ → sS_
attribute [local go_sem] max2_int min2_int max_two min_two max_three min_three max_four min_four   -- for this text's walks alone
set_option linter.unusedVariables false
set_option linter.unusedSimpArgs false

/-! ### hinterlandref10_Work: function 27 -/
mutual
def hinterlandref10_Work.j0 : Nat → List (S39) → Bool → Int → Int → Int → List Int → List Int → List Int → List Int → Int → Int → Bool → Int → Int → Int → List Int → List Int → List Int → List Int → Int → Int → Bool → Option (Int × Int × Int × List Int × List Int × List Int × List Int × Int × Int × Bool × Int)
  | 0, _, _, _, _, _, _, _, _, _, _, _, _, _, _, _, _, _, _, _, _, _, _ => none
  | k + 1, x0, x32, x748000, x748001, x748002, x748003, x748004, x748005, x748006, x748007, x748008, x748009, x769000, x769001, x769002, x769003, x769004, x769005, x769006, x769007, x769008, x769009 => if x32 = true then (some (x769000, x769001, x769002, x769003, x769004, x769005, x769006, x769007, x769008, x769009, 0)) else (if 0 ≤ x748000 then (if x748000 < (x0.length : Int) then (hinterlandref10_Work.l0 k ((rd_T39 x0 x748000).f2) (((rd_T39 x0 x748000).f2).length : Int) 0 x748000 x748001 x748002 x748003 x748004 x748005 x748006 x748007 x748008 x748009 x769000 x769001 x769002 x769003 x769004 x769005 x769006 x769007 x769008 x769009) else (none)) else (none))
def hinterlandref10_Work.l0 : Nat → List (S41) → Int → Int → Int → Int → Int → List Int → List Int → List Int → List Int → Int → Int → Bool → Int → Int → Int → List Int → List Int → List Int → List Int → Int → Int → Bool → Option (Int × Int × Int × List Int × List Int × List Int × List Int × Int × Int × Bool × Int)
  | 0, _, _, _, _, _, _, _, _, _, _, _, _, _, _, _, _, _, _, _, _, _, _, _ => none
  | k + 1, x39, x40, x41, x748000, x748001, x748002, x748003, x748004, x748005, x748006, x748007, x748008, x748009, x769000, x769001, x769002, x769003, x769004, x769005, x769006, x769007, x769008, x769009 => if x41 < x40 then (if 0 ≤ x41 then (if x41 < (x39.length : Int) then (if x41 < (x748003.length : Int) then (if x41 < (x769003.length : Int) then (if x41 < (x769005.length : Int) then (hinterlandref10_Work.l0 k x39 x40 (wrap64 (x41 + 1)) x748000 x748001 x748002 x748003 x748004 x748005 x748006 x748007 x748008 x748009 x769000 x769001 x769002 (x769003.set (x41 : Int).toNat (wrap64 ((rd x769003 x41) + (mn (wrap64 (Int.tdiv (wrap64 (((rd_T41 x39 x41).f1) * x748002)) 16)) (wrap64 (1000000 - (rd x748003 x41))))))) x769004 (x769005.set (x41 : Int).toNat (mn (wrap64 ((rd x769005 x41) + (mn (wrap64 (Int.tdiv (wrap64 (((rd_T41 x39 x41).f1) * x748002)) 16)) (wrap64 (1000000 - (rd x748003 x41)))))) 1000000)) x769006 x769007 x769008 x769009) else (none)) else (none)) else (none)) else (none)) else (none)) else (some (x769000, x769001, x769002, x769003, x769004, x769005, x769006, x769007, x769008, x769009, 0))
end
def hinterlandref10_Work.f (k : Nat) (l0 : List (S39)) (a1_0 : Int) (a1_1 : Int) (a1_2 : Int) (l1_3 : List Int) (l1_4 : List Int) (l1_5 : List Int) (l1_6 : List Int) (a1_7 : Int) (a1_8 : Int) (a1_9 : Bool) : Option (Int × Int × Int × List Int × List Int × List Int × List Int × Int × Int × Bool × Int) := (hinterlandref10_Validate.f k l0 a1_0 a1_1 a1_2 l1_3 l1_4 l1_5 l1_6 a1_7 a1_8 a1_9).bind fun t749 => (if t749 = 0 then ((hinterlandref10_again.f a1_0 a1_1 a1_2 l1_3 l1_4 l1_5 l1_6 a1_7 a1_8 a1_9).bind fun bt750 => (if a1_9 = true then (if 0 ≤ a1_0 then (if a1_0 < (l0.length : Int) then (hinterlandref10_Work.j0 k l0 (decide ((((rd_T39 l0 a1_0).f1).length : Int) > 0)) a1_0 a1_1 a1_2 l1_3 l1_4 l1_5 l1_6 a1_7 a1_8 a1_9 bt750.1 bt750.2.1 bt750.2.2.1 bt750.2.2.2.1 bt750.2.2.2.2.1 bt750.2.2.2.2.2.1 bt750.2.2.2.2.2.2.1 bt750.2.2.2.2.2.2.2.1 bt750.2.2.2.2.2.2.2.2.1 bt750.2.2.2.2.2.2.2.2.2) else (none)) else (none)) else (hinterlandref10_Work.j0 k l0 true a1_0 a1_1 a1_2 l1_3 l1_4 l1_5 l1_6 a1_7 a1_8 a1_9 bt750.1 bt750.2.1 bt750.2.2.1 bt750.2.2.2.1 bt750.2.2.2.2.1 bt750.2.2.2.2.2.1 bt750.2.2.2.2.2.2.1 bt750.2.2.2.2.2.2.2.1 bt750.2.2.2.2.2.2.2.2.1 bt750.2.2.2.2.2.2.2.2.2))) else (some (0, 0, 0, ([] : List Int), ([] : List Int), ([] : List Int), ([] : List Int), 0, 0, false, t749)))
theorem hinterlandref10_Work.mono_l : ∀ k, (∀ y0 y1 y2 y3 y4 y5 y6 y7 y8 y9 y10 y11 y12 y13 y14 y15 y16 y17 y18 y19 y20 y21, LeO (hinterlandref10_Work.j0 k y0 y1 y2 y3 y4 y5 y6 y7 y8 y9 y10 y11 y12 y13 y14 y15 y16 y17 y18 y19 y20 y21) (hinterlandref10_Work.j0 (k + 1) y0 y1 y2 y3 y4 y5 y6 y7 y8 y9 y10 y11 y12 y13 y14 y15 y16 y17 y18 y19 y20 y21)) ∧ (∀ y0 y1 y2 y3 y4 y5 y6 y7 y8 y9 y10 y11 y12 y13 y14 y15 y16 y17 y18 y19 y20 y21 y22, LeO (hinterlandref10_Work.l0 k y0 y1 y2 y3 y4 y5 y6 y7 y8 y9 y10 y11 y12 y13 y14 y15 y16 y17 y18 y19 y20 y21 y22) (hinterlandref10_Work.l0 (k + 1) y0 y1 y2 y3 y4 y5 y6 y7 y8 y9 y10 y11 y12 y13 y14 y15 y16 y17 y18 y19 y20 y21 y22))
  | 0 => ⟨fun _ _ _ _ _ _ _ _ _ _ _ _ _ _ _ _ _ _ _ _ _ _ r h => by simp [hinterlandref10_Work.j0] at h, fun _ _ _ _ _ _ _ _ _ _ _ _ _ _ _ _ _ _ _ _ _ _ _ r h => by simp [hinterlandref10_Work.l0] at h⟩
  | k + 1 => by
    obtain ⟨ih0, ih1⟩ := hinterlandref10_Work.mono_l k
    refine ⟨?_, ?_⟩
    · intro y0 y1 y2 y3 y4 y5 y6 y7 y8 y9 y10 y11 y12 y13 y14 y15 y16 y17 y18 y19 y20 y21
      unfold hinterlandref10_Work.j0
      repeat' first
      | (with_reducible first | exact ih0 _ _ _ _ _ _ _ _ _ _ _ _ _ _ _ _ _ _ _ _ _ _ | exact ih1 _ _ _ _ _ _ _ _ _ _ _ _ _ _ _ _ _ _ _ _ _ _ _ | exact hinterlandref10_Validate.mono _ _ _ _ _ _ _ _ _ _ _ _ | exact LeO.refl _ | exact LeO.none _ | refine LeO.ite ?_ ?_ | refine LeO.bind ?_ (fun _ => ?_))
      | exact ih0 _ _ _ _ _ _ _ _ _ _ _ _ _ _ _ _ _ _ _ _ _ _
      | exact ih1 _ _ _ _ _ _ _ _ _ _ _ _ _ _ _ _ _ _ _ _ _ _ _
      | exact hinterlandref10_Validate.mono _ _ _ _ _ _ _ _ _ _ _ _
      | exact LeO.none _
      | refine LeO.ite ?_ ?_
      | refine LeO.bind ?_ (fun _ => ?_)
    · intro y0 y1 y2 y3 y4 y5 y6 y7 y8 y9 y10 y11 y12 y13 y14 y15 y16 y17 y18 y19 y20 y21 y22
      unfold hinterlandref10_Work.l0
      repeat' first
      | (with_reducible first | exact ih0 _ _ _ _ _ _ _ _ _ _ _ _ _ _ _ _ _ _ _ _ _ _ | exact ih1 _ _ _ _ _ _ _ _ _ _ _ _ _ _ _ _ _ _ _ _ _ _ _ | exact hinterlandref10_Validate.mono _ _ _ _ _ _ _ _ _ _ _ _ | exact LeO.refl _ | exact LeO.none _ | refine LeO.ite ?_ ?_ | refine LeO.bind ?_ (fun _ => ?_))
      | exact ih0 _ _ _ _ _ _ _ _ _ _ _ _ _ _ _ _ _ _ _ _ _ _
      | exact ih1 _ _ _ _ _ _ _ _ _ _ _ _ _ _ _ _ _ _ _ _ _ _ _
      | exact hinterlandref10_Validate.mono _ _ _ _ _ _ _ _ _ _ _ _
      | exact LeO.none _
      | refine LeO.ite ?_ ?_
      | refine LeO.bind ?_ (fun _ => ?_)
theorem hinterlandref10_Work.mono : ∀ a0 a1 a2 a3 a4 a5 a6 a7 a8 a9 a10 k, LeO (hinterlandref10_Work.f k a0 a1 a2 a3 a4 a5 a6 a7 a8 a9 a10) (hinterlandref10_Work.f (k + 1) a0 a1 a2 a3 a4 a5 a6 a7 a8 a9 a10) := by
  intro a0 a1 a2 a3 a4 a5 a6 a7 a8 a9 a10 k
  obtain ⟨ih0, ih1⟩ := hinterlandref10_Work.mono_l k
  unfold hinterlandref10_Work.f
  repeat' first
      | (with_reducible first | exact ih0 _ _ _ _ _ _ _ _ _ _ _ _ _ _ _ _ _ _ _ _ _ _ | exact ih1 _ _ _ _ _ _ _ _ _ _ _ _ _ _ _ _ _ _ _ _ _ _ _ | exact hinterlandref10_Validate.mono _ _ _ _ _ _ _ _ _ _ _ _ | exact LeO.refl _ | exact LeO.none _ | refine LeO.ite ?_ ?_ | refine LeO.bind ?_ (fun _ => ?_))
      | exact ih0 _ _ _ _ _ _ _ _ _ _ _ _ _ _ _ _ _ _ _ _ _ _
      | exact ih1 _ _ _ _ _ _ _ _ _ _ _ _ _ _ _ _ _ _ _ _ _ _ _
      | exact hinterlandref10_Validate.mono _ _ _ _ _ _ _ _ _ _ _ _
      | exact LeO.none _
      | refine LeO.ite ?_ ?_
      | refine LeO.bind ?_ (fun _ => ?_)
def hinterlandref10_Work.T10 : Bool × List (List Nat × List Nat) := (true, [([], []), ([0], [0]), ([], []), ([2], [2]), ([1, 3], [1, 3]), ([4], [4]), ([], []), ([6], [6]), ([], []), ([7, 8], [7, 8]), ([9], [9]), ([10], [10]), ([5, 11], [5, 11]), ([12, 0, 1, 2, 3, 4, 5, 6, 7, 8, 9, 10, 11, 12], [12])])
def hinterlandref10_Work.B10 : List Nat := [0, 1, 0, 4, 15, 31, 0, 64, 0, 448, 960, 1984, 4095, 8191]
theorem hinterlandref10_Work.tab10 : rtab .any (opsOf Try.f27 10) = hinterlandref10_Work.T10 := by kernel_rfl
theorem hinterlandref10_Work.bits10 : waitsOk hinterlandref10_Work.T10.2 hinterlandref10_Work.B10 = true := by kernel_rfl
def hinterlandref10_Work.T12 : Bool × List (List Nat × List Nat) := (true, [([], []), ([0], [0]), ([], []), ([], []), ([3], [3]), ([], []), ([4, 5], [4, 5]), ([6], [6]), ([], []), ([7, 8], [7, 8]), ([9], [9]), ([1, 2, 0, 1, 2, 3, 4, 5, 6, 7, 8, 9, 10], [1, 2]), ([11, 10, 0, 1, 2, 3, 4, 5, 6, 7, 8, 9, 10], [10, 11])])
def hinterlandref10_Work.B12 : List Nat := [0, 1, 0, 0, 8, 0, 56, 120, 0, 504, 1016, 2047, 4095]
theorem hinterlandref10_Work.tab12 : rtab .any (opsOf Try.f27 12) = hinterlandref10_Work.T12 := by kernel_rfl
theorem hinterlandref10_Work.bits12 : waitsOk hinterlandref10_Work.T12.2 hinterlandref10_Work.B12 = true := by kernel_rfl
set_option maxHeartbeats 8000000 in
set_option maxRecDepth 100000 in
theorem hinterlandref10_Work.calls (k : Nat) (A0 : Option Addr) (c0 : Nat) (l0 : List (S39)) (a1_0 : Int) (a1_1 : Int) (a1_2 : Int) (A1_3 : Option Addr) (c1_3 : Nat) (l1_3 : List Int) (A1_4 : Option Addr) (c1_4 : Nat) (l1_4 : List Int) (A1_5 : Option Addr) (c1_5 : Nat) (l1_5 : List Int) (A1_6 : Option Addr) (c1_6 : Nat) (l1_6 : List Int) (a1_7 : Int) (a1_8 : Int) (a1_9 : Bool) (r1 : Int) (r2 : Int) (r3 : Int) (r4 : List Int) (r5 : List Int) (r6 : List Int) (r7 : List Int) (r8 : Int) (r9 : Int) (r10 : Bool) (r11 : Int) (w : World) (hr0 : Kd.C k39 w A0 l0.length l0) (hc0 : l0.length ≤ c0) (hr1_3 : Kd.C (Kd.int .i64) w A1_3 l1_3.length l1_3) (hc1_3 : l1_3.length ≤ c1_3) (hr1_4 : Kd.C (Kd.int .i64) w A1_4 l1_4.length l1_4) (hc1_4 : l1_4.length ≤ c1_4) (hr1_5 : Kd.C (Kd.int .i64) w A1_5 l1_5.length l1_5) (hc1_5 : l1_5.length ≤ c1_5) (hr1_6 : Kd.C (Kd.int .i64) w A1_6 l1_6.length l1_6) (hc1_6 : l1_6.length ≤ c1_6) (h : hinterlandref10_Work.f k l0 a1_0 a1_1 a1_2 l1_3 l1_4 l1_5 l1_6 a1_7 a1_8 a1_9 = some (r1, r2, r3, r4, r5, r6, r7, r8, r9, r10, r11)) :
    Calls Try.prog 27 #[.slice A0 l0.length c0, .agg #[.int .i64 a1_0, .int .i64 a1_1, .int .i64 a1_2, .slice A1_3 l1_3.length c1_3, .slice A1_4 l1_4.length c1_4, .slice A1_5 l1_5.length c1_5, .slice A1_6 l1_6.length c1_6, .int .i64 a1_7, .int .i64 a1_8, .bool a1_9]] w fun e w' => ∃ v3_ v4_ v5_ v6_ : Value, e = .returned (.tuple #[.agg #[.int .i64 r1, .int .i64 r2, .int .i64 r3, v3_, v4_, v5_, v6_, .int .i64 r8, .int .i64 r9, .bool r10], .int .i64 r11]) ∧ Kd.R (Kd.int .i64) 3 w' w.heap.size (fun k_ => some k_ ≠ (v4_ : Value).ownBlock ∧ some k_ ≠ (v5_ : Value).ownBlock ∧ some k_ ≠ (v6_ : Value).ownBlock) v3_ r4 ∧ Kd.R (Kd.int .i64) 3 w' w.heap.size (fun k_ => some k_ ≠ (v3_ : Value).ownBlock ∧ some k_ ≠ (v5_ : Value).ownBlock ∧ some k_ ≠ (v6_ : Value).ownBlock) v4_ r5 ∧ Kd.R (Kd.int .i64) 3 w' w.heap.size (fun k_ => some k_ ≠ (v3_ : Value).ownBlock ∧ some k_ ≠ (v4_ : Value).ownBlock ∧ some k_ ≠ (v6_ : Value).ownBlock) v5_ r6 ∧ Kd.R (Kd.int .i64) 3 w' w.heap.size (fun k_ => some k_ ≠ (v3_ : Value).ownBlock ∧ some k_ ≠ (v4_ : Value).ownBlock ∧ some k_ ≠ (v5_ : Value).ownBlock) v6_ r7 ∧ Below w.heap.size w w' := by
 have hu25 := Try.underlying25
 have hu41 := Try.underlying41
 have HR0 := Aside0.mk hr0
 have HC0 := Aside0.mk hc0
 clear hr0 hc0
 have HR1_3 := Aside0.mk hr1_3
 have HC1_3 := Aside0.mk hc1_3
 clear hr1_3 hc1_3
 have HR1_4 := Aside0.mk hr1_4
 have HC1_4 := Aside0.mk hc1_4
 clear hr1_4 hc1_4
 have HR1_5 := Aside0.mk hr1_5
 have HC1_5 := Aside0.mk hc1_5
 clear hr1_5 hc1_5
 have HR1_6 := Aside0.mk hr1_6
 have HC1_6 := Aside0.mk hc1_6
 clear hr1_6 hc1_6
 have HB := Aside0.mk (Below.refl w.heap.size w)
 have H : ((hinterlandref10_Validate.f k l0 a1_0 a1_1 a1_2 l1_3 l1_4 l1_5 l1_6 a1_7 a1_8 a1_9).bind fun t749 => (if t749 = 0 then ((hinterlandref10_again.f a1_0 a1_1 a1_2 l1_3 l1_4 l1_5 l1_6 a1_7 a1_8 a1_9).bind fun bt750 => (if a1_9 = true then (if 0 ≤ a1_0 then (if a1_0 < (l0.length : Int) then (hinterlandref10_Work.j0 k l0 (decide ((((rd_T39 l0 a1_0).f1).length : Int) > 0)) a1_0 a1_1 a1_2 l1_3 l1_4 l1_5 l1_6 a1_7 a1_8 a1_9 bt750.1 bt750.2.1 bt750.2.2.1 bt750.2.2.2.1 bt750.2.2.2.2.1 bt750.2.2.2.2.2.1 bt750.2.2.2.2.2.2.1 bt750.2.2.2.2.2.2.2.1 bt750.2.2.2.2.2.2.2.2.1 bt750.2.2.2.2.2.2.2.2.2) else (none)) else (none)) else (hinterlandref10_Work.j0 k l0 true a1_0 a1_1 a1_2 l1_3 l1_4 l1_5 l1_6 a1_7 a1_8 a1_9 bt750.1 bt750.2.1 bt750.2.2.1 bt750.2.2.2.1 bt750.2.2.2.2.1 bt750.2.2.2.2.2.1 bt750.2.2.2.2.2.2.1 bt750.2.2.2.2.2.2.2.1 bt750.2.2.2.2.2.2.2.2.1 bt750.2.2.2.2.2.2.2.2.2))) else (some (0, 0, 0, ([] : List Int), ([] : List Int), ([] : List Int), ([] : List Int), 0, 0, false, t749)))) = some (r1, r2, r3, r4, r5, r6, r7, r8, r9, r10, r11) := h
 clear h
 replace H := Option.bind_eq_some_iff.mp H
 obtain ⟨t749, A30, H⟩ := H
 replace H : (if t749 = 0 then ((hinterlandref10_again.f a1_0 a1_1 a1_2 l1_3 l1_4 l1_5 l1_6 a1_7 a1_8 a1_9).bind fun bt750 => (if a1_9 = true then (if 0 ≤ a1_0 then (if a1_0 < (l0.length : Int) then (hinterlandref10_Work.j0 k l0 (decide ((((rd_T39 l0 a1_0).f1).length : Int) > 0)) a1_0 a1_1 a1_2 l1_3 l1_4 l1_5 l1_6 a1_7 a1_8 a1_9 bt750.1 bt750.2.1 bt750.2.2.1 bt750.2.2.2.1 bt750.2.2.2.2.1 bt750.2.2.2.2.2.1 bt750.2.2.2.2.2.2.1 bt750.2.2.2.2.2.2.2.1 bt750.2.2.2.2.2.2.2.2.1 bt750.2.2.2.2.2.2.2.2.2) else (none)) else (none)) else (hinterlandref10_Work.j0 k l0 true a1_0 a1_1 a1_2 l1_3 l1_4 l1_5 l1_6 a1_7 a1_8 a1_9 bt750.1 bt750.2.1 bt750.2.2.1 bt750.2.2.2.1 bt750.2.2.2.2.1 bt750.2.2.2.2.2.1 bt750.2.2.2.2.2.2.1 bt750.2.2.2.2.2.2.2.1 bt750.2.2.2.2.2.2.2.2.1 bt750.2.2.2.2.2.2.2.2.2))) else (some (0, 0, 0, ([] : List Int), ([] : List Int), ([] : List Int), ([] : List Int), 0, 0, false, t749))) = some (r1, r2, r3, r4, r5, r6, r7, r8, r9, r10, r11) := H
 have A3 := Aside0.mk A30
 clear A30
 by_cases c4 : t749 = 0
 ·rw [if_pos c4] at H
  have c4b0 : (t749 == 0) = true := beq_iff_eq.mpr c4
  have c4b1 : (t749 != 0) = false := bne_eq_false_iff_eq.mpr c4
  clear c4
  replace H := Option.bind_eq_some_iff.mp H
  obtain ⟨⟨t750, t751, t752, t753, t756, t759, t762, t765, t766, t767⟩, A50, H⟩ := H
  replace H : (if a1_9 = true then (if 0 ≤ a1_0 then (if a1_0 < (l0.length : Int) then (hinterlandref10_Work.j0 k l0 (decide ((((rd_T39 l0 a1_0).f1).length : Int) > 0)) a1_0 a1_1 a1_2 l1_3 l1_4 l1_5 l1_6 a1_7 a1_8 a1_9 t750 t751 t752 t753 t756 t759 t762 t765 t766 t767) else (none)) else (none)) else (hinterlandref10_Work.j0 k l0 true a1_0 a1_1 a1_2 l1_3 l1_4 l1_5 l1_6 a1_7 a1_8 a1_9 t750 t751 t752 t753 t756 t759 t762 t765 t766 t767)) = some (r1, r2, r3, r4, r5, r6, r7, r8, r9, r10, r11) := H
  have A5 := Aside0.mk A50
  clear A50
  have HC6 := Aside0.mk H
  clear H
  go_enter Try.func27, Try.ntmps27
  go_upto_region 5 with (first | ((with_reducible refine gate_dst (N := 3) rfl ?_); (try (refine gate_guard (by rfl) ?_; dsimp only)); refine box_event ?hg (N := 3) ?hd (cs := #[.int .i64 a1_0, .int .i64 a1_1, .int .i64 a1_2, .slice A1_3 l1_3.length c1_3, .slice A1_4 l1_4.length c1_4, .slice A1_5 l1_5.length c1_5, .slice A1_6 l1_6.length c1_6, .int .i64 a1_7, .int .i64 a1_8, .bool a1_9]) (t := 25) ?hr ?_; (case hd => rfl); (case hg => rfl); (case hr => first | (go_simp; done) | (go_simp; rfl)); intro gb747 hg w7 hbox hb; have BK747 := Aside0.mk (hbox); have GW747 := Aside0.mk ((dS_ hg (dL_ HB) : w.heap.size ≤ gb747)); have GE747 := Aside0.mk ((dS_ hg (dL_ HB) : w.heap.size ≤ gb747)); replace HB := Aside0.mk (below_step (dL_ HB) hb); clear hb hbox hg) | ((with_reducible refine gate_dst (N := 4) rfl ?_); (try (refine gate_guard (by rfl) ?_; dsimp only)); refine box_event ?hg (N := 4) ?hd (cs := #[.int .i64 0, .int .i64 0, .int .i64 0, .slice none 0 0, .slice none 0 0, .slice none 0 0, .slice none 0 0, .int .i64 0, .int .i64 0, .bool false]) (t := 25) ?hr ?_; (case hd => rfl); (case hg => rfl); (case hr => first | (go_simp; done) | (go_simp; rfl)); intro gb748 hg w8 hbox hb; have BK748 := Aside0.mk (hbox); have GW748 := Aside0.mk ((dS_ hg (dL1_ HB GE747) : w.heap.size ≤ gb748)); have GE748 := Aside0.mk ((dS_ hg (dL1_ HB GE747) : w.heap.size ≤ gb748)); replace HB := Aside0.mk (below_step (dL1_ HB GE747) hb); have NB747_748 := Aside0.mk ((by rw [hg]; exact Nat.ne_of_lt (blk_lt (dB_ BK747)) : gb747 ≠ gb748)); have NB748_747 := Aside0.mk ((by rw [hg]; exact Nat.ne_of_gt (blk_lt (dB_ BK747)) : gb748 ≠ gb747)); replace BK747 := Aside0.mk (blk_below (g := gb747) (o := .cells #[.int .i64 a1_0, .int .i64 a1_1, .int .i64 a1_2, .slice A1_3 l1_3.length c1_3, .slice A1_4 l1_4.length c1_4, .slice A1_5 l1_5.length c1_5, .slice A1_6 l1_6.length c1_6, .int .i64 a1_7, .int .i64 a1_8, .bool a1_9] 25 (0, 0)) (dB_ BK747) hb); clear hb hbox hg; have hnb9 := NB747_748.out; have hnc9 := NB748_747.out; obtain ⟨hcz10_0, hcz10_1, hcz10_2, hcz10_3, hcz10_4, hcz10_5, hcz10_6, hcz10_7, hcz10_8, hcz10_9, hfz10_0, hfz10_1, hfz10_2, hfz10_3, hfz10_4, hfz10_5, hfz10_6, hfz10_7, hfz10_8, hfz10_9⟩ := cs10_ BK747.out) | ((with_reducible refine gate_callee (f := 16) rfl ?_); refine goesL_ (some 13) rfl rfl Try.func16 (by kernel_rfl) rfl #[.slice A0 l0.length c0, .agg #[.int .i64 a1_0, .int .i64 a1_1, .int .i64 a1_2, .slice A1_3 l1_3.length c1_3, .slice A1_4 l1_4.length c1_4, .slice A1_5 l1_5.length c1_5, .slice A1_6 l1_6.length c1_6, .int .i64 a1_7, .int .i64 a1_8, .bool a1_9]] rfl tA_ ?_; (with_reducible refine (hinterlandref10_Validate.calls k _ _ l0 a1_0 a1_1 a1_2 _ _ l1_3 _ _ l1_4 _ _ l1_5 _ _ l1_6 a1_7 a1_8 a1_9 t749 _ ?side1 ?side2 ?side3 ?side4 ?side5 ?side6 ?side7 ?side8 ?side9 ?side10 A3.out).mono ?_); (case side1 => exact dC_ HR0 HB); (case side2 => exact HC0.out); (case side3 => exact dC_ HR1_3 HB); (case side4 => exact HC1_3.out); (case side5 => exact dC_ HR1_4 HB); (case side6 => exact HC1_4.out); (case side7 => exact dC_ HR1_5 HB); (case side8 => exact HC1_5.out); (case side9 => exact dC_ HR1_6 HB); (case side10 => exact HC1_6.out); rintro e w11 ⟨rfl, hb⟩; refine ⟨_, rfl, ?_⟩; replace BK747 := Aside0.mk (blk_below (g := gb747) (o := .cells #[.int .i64 a1_0, .int .i64 a1_1, .int .i64 a1_2, .slice A1_3 l1_3.length c1_3, .slice A1_4 l1_4.length c1_4, .slice A1_5 l1_5.length c1_5, .slice A1_6 l1_6.length c1_6, .int .i64 a1_7, .int .i64 a1_8, .bool a1_9] 25 (0, 0)) (dB_ BK747) hb); replace BK748 := Aside0.mk (blk_below (g := gb748) (o := .cells #[.int .i64 0, .int .i64 0, .int .i64 0, .slice none 0 0, .slice none 0 0, .slice none 0 0, .slice none 0 0, .int .i64 0, .int .i64 0, .bool false] 25 (0, 0)) (dB_ BK748) hb); replace HB := Aside0.mk (below_step (dL2_ HB GE747 GE748) hb); obtain ⟨hcz12_0, hcz12_1, hcz12_2, hcz12_3, hcz12_4, hcz12_5, hcz12_6, hcz12_7, hcz12_8, hcz12_9, hfz12_0, hfz12_1, hfz12_2, hfz12_3, hfz12_4, hfz12_5, hfz12_6, hfz12_7, hfz12_8, hfz12_9⟩ := cs10_ BK747.out) | ((with_reducible refine gate_callee (f := 41) rfl ?_); refine goesL_ (some 19) rfl rfl Try.func41 (by kernel_rfl) rfl #[.agg #[.int .i64 a1_0, .int .i64 a1_1, .int .i64 a1_2, .slice A1_3 l1_3.length c1_3, .slice A1_4 l1_4.length c1_4, .slice A1_5 l1_5.length c1_5, .slice A1_6 l1_6.length c1_6, .int .i64 a1_7, .int .i64 a1_8, .bool a1_9]] rfl tA_ ?_; (with_reducible refine (hinterlandref10_again.calls a1_0 a1_1 a1_2 _ _ l1_3 _ _ l1_4 _ _ l1_5 _ _ l1_6 a1_7 a1_8 a1_9 t750 t751 t752 t753 t756 t759 t762 t765 t766 t767 _ ?side1 ?side2 ?side3 ?side4 ?side5 ?side6 ?side7 ?side8 A5.out).mono ?_); (case side1 => exact dC_ HR1_3 HB); (case side2 => exact HC1_3.out); (case side3 => exact dC_ HR1_4 HB); (case side4 => exact HC1_4.out); (case side5 => exact dC_ HR1_5 HB); (case side6 => exact HC1_5.out); (case side7 => exact dC_ HR1_6 HB); (case side8 => exact HC1_6.out); rintro e w13 ⟨v754, v757, v760, v763, rfl, ho0, ho1, ho2, ho3, hb⟩; refine ⟨_, rfl, ?_⟩; have HO755 := Aside0.mk (Kd.R_lower ho0 (below_size (dL2_ HB GE747 GE748))); have HO758 := Aside0.mk (Kd.R_lower ho1 (below_size (dL2_ HB GE747 GE748))); have HO761 := Aside0.mk (Kd.R_lower ho2 (below_size (dL2_ HB GE747 GE748))); have HO764 := Aside0.mk (Kd.R_lower ho3 (below_size (dL2_ HB GE747 GE748))); replace BK747 := Aside0.mk (blk_below (g := gb747) (o := .cells #[.int .i64 a1_0, .int .i64 a1_1, .int .i64 a1_2, .slice A1_3 l1_3.length c1_3, .slice A1_4 l1_4.length c1_4, .slice A1_5 l1_5.length c1_5, .slice A1_6 l1_6.length c1_6, .int .i64 a1_7, .int .i64 a1_8, .bool a1_9] 25 (0, 0)) (dB_ BK747) hb); replace BK748 := Aside0.mk (blk_below (g := gb748) (o := .cells #[.int .i64 0, .int .i64 0, .int .i64 0, .slice none 0 0, .slice none 0 0, .slice none 0 0, .slice none 0 0, .int .i64 0, .int .i64 0, .bool false] 25 (0, 0)) (dB_ BK748) hb); replace HB := Aside0.mk (below_step (dL2_ HB GE747 GE748) hb)) | ((with_reducible refine gate_dst (N := 7) rfl ?_); (try (refine gate_guard (by rfl) ?_; dsimp only)); refine box_event ?hg (N := 7) ?hd (cs := #[.int .i64 0, .int .i64 0, .int .i64 0, .slice none 0 0, .slice none 0 0, .slice none 0 0, .slice none 0 0, .int .i64 0, .int .i64 0, .bool false]) (t := 25) ?hr ?_; (case hd => rfl); (case hg => rfl); (case hr => first | (go_simp; done) | (go_simp; rfl)); intro gb768 hg w14 hbox hb; replace HO755 := Aside0.mk (Kd.R_below (dR_ HO755) hb); replace HO758 := Aside0.mk (Kd.R_below (dR_ HO758) hb); replace HO761 := Aside0.mk (Kd.R_below (dR_ HO761) hb); replace HO764 := Aside0.mk (Kd.R_below (dR_ HO764) hb); have BK768 := Aside0.mk (hbox); have GW768 := Aside0.mk ((dS_ hg (dL2_ HB GE747 GE748) : w.heap.size ≤ gb768)); have GE768 := Aside0.mk ((dS_ hg (dL2_ HB GE747 GE748) : w.heap.size ≤ gb768)); replace HB := Aside0.mk (below_step (dL2_ HB GE747 GE748) hb); have NB747_768 := Aside0.mk ((by rw [hg]; exact Nat.ne_of_lt (blk_lt (dB_ BK747)) : gb747 ≠ gb768)); have NB768_747 := Aside0.mk ((by rw [hg]; exact Nat.ne_of_gt (blk_lt (dB_ BK747)) : gb768 ≠ gb747)); replace BK747 := Aside0.mk (blk_below (g := gb747) (o := .cells #[.int .i64 a1_0, .int .i64 a1_1, .int .i64 a1_2, .slice A1_3 l1_3.length c1_3, .slice A1_4 l1_4.length c1_4, .slice A1_5 l1_5.length c1_5, .slice A1_6 l1_6.length c1_6, .int .i64 a1_7, .int .i64 a1_8, .bool a1_9] 25 (0, 0)) (dB_ BK747) hb); have NB748_768 := Aside0.mk ((by rw [hg]; exact Nat.ne_of_lt (blk_lt (dB_ BK748)) : gb748 ≠ gb768)); have NB768_748 := Aside0.mk ((by rw [hg]; exact Nat.ne_of_gt (blk_lt (dB_ BK748)) : gb768 ≠ gb748)); replace BK748 := Aside0.mk (blk_below (g := gb748) (o := .cells #[.int .i64 0, .int .i64 0, .int .i64 0, .slice none 0 0, .slice none 0 0, .slice none 0 0, .slice none 0 0, .int .i64 0, .int .i64 0, .bool false] 25 (0, 0)) (dB_ BK748) hb); clear hb hbox hg; have hnb15 := NB768_747.out; have hnc15 := NB747_768.out; have hnb16 := NB768_748.out; have hnc16 := NB748_768.out; obtain ⟨hcz17_0, hcz17_1, hcz17_2, hcz17_3, hcz17_4, hcz17_5, hcz17_6, hcz17_7, hcz17_8, hcz17_9, hfz17_0, hfz17_1, hfz17_2, hfz17_3, hfz17_4, hfz17_5, hfz17_6, hfz17_7, hfz17_8, hfz17_9⟩ := cs10_ BK768.out; obtain ⟨Ao18, co18, eo18⟩ := Kd.R_slice HO755.out; subst eo18; obtain ⟨Ao19, co19, eo19⟩ := Kd.R_slice HO758.out; subst eo19; obtain ⟨Ao20, co20, eo20⟩ := Kd.R_slice HO761.out; subst eo20; obtain ⟨Ao21, co21, eo21⟩ := Kd.R_slice HO764.out; subst eo21))
  (try simp only [Act.put, sI_, s0_, sS_])
  go_cut [32] (fun v32 wc => ∃ (kq : Nat) (x32_5 : Bool), v32 = .bool x32_5 ∧ Aside0 (hinterlandref10_Work.j0 kq l0 x32_5 a1_0 a1_1 a1_2 l1_3 l1_4 l1_5 l1_6 a1_7 a1_8 a1_9 t750 t751 t752 t753 t756 t759 t762 t765 t766 t767 = some (r1, r2, r3, r4, r5, r6, r7, r8, r9, r10, r11)) ∧ Aside0 (kq ≤ k) ∧ Aside0 (Kd.R (Kd.int .i64) 3 wc w.heap.size (fun k_ => some k_ ≠ ((.slice Ao19 t756.length co19) : Value).ownBlock ∧ some k_ ≠ ((.slice Ao20 t759.length co20) : Value).ownBlock ∧ some k_ ≠ ((.slice Ao21 t762.length co21) : Value).ownBlock) (.slice Ao18 t753.length co18) t753) ∧ Aside0 (Kd.R (Kd.int .i64) 3 wc w.heap.size (fun k_ => some k_ ≠ ((.slice Ao18 t753.length co18) : Value).ownBlock ∧ some k_ ≠ ((.slice Ao20 t759.length co20) : Value).ownBlock ∧ some k_ ≠ ((.slice Ao21 t762.length co21) : Value).ownBlock) (.slice Ao19 t756.length co19) t756) ∧ Aside0 (Kd.R (Kd.int .i64) 3 wc w.heap.size (fun k_ => some k_ ≠ ((.slice Ao18 t753.length co18) : Value).ownBlock ∧ some k_ ≠ ((.slice Ao19 t756.length co19) : Value).ownBlock ∧ some k_ ≠ ((.slice Ao21 t762.length co21) : Value).ownBlock) (.slice Ao20 t759.length co20) t759) ∧ Aside0 (Kd.R (Kd.int .i64) 3 wc w.heap.size (fun k_ => some k_ ≠ ((.slice Ao18 t753.length co18) : Value).ownBlock ∧ some k_ ≠ ((.slice Ao19 t756.length co19) : Value).ownBlock ∧ some k_ ≠ ((.slice Ao20 t759.length co20) : Value).ownBlock) (.slice Ao21 t762.length co21) t762) ∧ Aside0 (wc.heap[gb747]? = some (.cells #[.int .i64 a1_0, .int .i64 a1_1, .int .i64 a1_2, (.slice A1_3 l1_3.length c1_3), (.slice A1_4 l1_4.length c1_4), (.slice A1_5 l1_5.length c1_5), (.slice A1_6 l1_6.length c1_6), .int .i64 a1_7, .int .i64 a1_8, .bool a1_9] 25 (0, 0))) ∧ Aside0 (wc.heap[gb748]? = some (.cells #[.int .i64 0, .int .i64 0, .int .i64 0, (.slice none 0 0), (.slice none 0 0), (.slice none 0 0), (.slice none 0 0), .int .i64 0, .int .i64 0, .bool false] 25 (0, 0))) ∧ Aside0 (wc.heap[gb768]? = some (.cells #[.int .i64 t750, .int .i64 t751, .int .i64 t752, (.slice Ao18 t753.length co18), (.slice Ao19 t756.length co19), (.slice Ao20 t759.length co20), (.slice Ao21 t762.length co21), .int .i64 t765, .int .i64 t766, .bool t767] 25 (0, 0))) ∧ Aside0 (Below w.heap.size w wc))
  case first =>
   have H := HC6.out
   clear HC6
   by_cases c22 : a1_9 = true
   ·subst c22
    have H1 : (if 0 ≤ a1_0 then (if a1_0 < (l0.length : Int) then (hinterlandref10_Work.j0 k l0 (decide ((((rd_T39 l0 a1_0).f1).length : Int) > 0)) a1_0 a1_1 a1_2 l1_3 l1_4 l1_5 l1_6 a1_7 a1_8 true t750 t751 t752 t753 t756 t759 t762 t765 t766 t767) else (none)) else (none)) = some (r1, r2, r3, r4, r5, r6, r7, r8, r9, r10, r11) := by rw [if_pos rfl] at H; exact H
    clear H
    have H := H1
    clear H1
    by_cases c23 : 0 ≤ a1_0
    ·rw [if_pos c23] at H
     have c23b0 : decide (0 ≤ a1_0) = true := decide_eq_true c23
     clear c23
     (first | rw [c23b0] | (simp only [i64_w, i32_w]; rw [c23b0]) | skip)
     by_cases c24 : a1_0 < (l0.length : Int)
     ·rw [if_pos c24] at H
      have c24b0 : decide (a1_0 < (l0.length : Int)) = true := decide_eq_true c24
      clear c24
      have H' := Aside0.mk H
      clear H
      have hnb25 := NB747_748.out
      have hnc25 := NB748_747.out
      have hnb26 := NB747_768.out
      have hnc26 := NB768_747.out
      obtain ⟨hcz27_0, hcz27_1, hcz27_2, hcz27_3, hcz27_4, hcz27_5, hcz27_6, hcz27_7, hcz27_8, hcz27_9, hfz27_0, hfz27_1, hfz27_2, hfz27_3, hfz27_4, hfz27_5, hfz27_6, hfz27_7, hfz27_8, hfz27_9⟩ := cs10_ BK747.out
      have p769 : 0 ≤ (a1_0 : Int) := of_decide_eq_true tW_
      have q769 : a1_0 < (l0.length : Int) := of_decide_eq_true tW_
      obtain ⟨ad769, A769_1, c769_1, A769_2, c769_2, e769, hx769_0, hx769_1, hx769_2, hl769_1, hi769_1, hl769_2, hi769_2⟩ := at_T39 HR0.out a1_0 p769 q769
      cases e769
      have hn769_0 : ad769.block ≠ gb768 := Nat.ne_of_lt (Nat.lt_of_lt_of_le (by have := World.block_lt_of_cell? _ _ hx769_0; first | rwa [add_block] at this | exact this) GW768.out)
      have hn769_1 : ad769.block ≠ gb768 := Nat.ne_of_lt (Nat.lt_of_lt_of_le (by have := World.block_lt_of_cell? _ _ hx769_0; first | rwa [add_block] at this | exact this) GW768.out)
      have hn769_2 : ad769.block ≠ gb768 := Nat.ne_of_lt (Nat.lt_of_lt_of_le (by have := World.block_lt_of_cell? _ _ hx769_0; first | rwa [add_block] at this | exact this) GW768.out)
      have hn769_3 : ad769.block ≠ gb768 := Nat.ne_of_lt (Nat.lt_of_lt_of_le (by have := World.block_lt_of_cell? _ _ hx769_0; first | rwa [add_block] at this | exact this) GW768.out)
      have hn769_4 : ad769.block ≠ gb768 := Nat.ne_of_lt (Nat.lt_of_lt_of_le (by have := World.block_lt_of_cell? _ _ hx769_0; first | rwa [add_block] at this | exact this) GW768.out)
      have hn769_5 : ad769.block ≠ gb768 := Nat.ne_of_lt (Nat.lt_of_lt_of_le (by have := World.block_lt_of_cell? _ _ hx769_0; first | rwa [add_block] at this | exact this) GW768.out)
      have hn769_6 : ad769.block ≠ gb768 := Nat.ne_of_lt (Nat.lt_of_lt_of_le (by have := World.block_lt_of_cell? _ _ hx769_0; first | rwa [add_block] at this | exact this) GW768.out)
      have hn769_7 : ad769.block ≠ gb768 := Nat.ne_of_lt (Nat.lt_of_lt_of_le (by have := World.block_lt_of_cell? _ _ hx769_0; first | rwa [add_block] at this | exact this) GW768.out)
      have hn769_8 : ad769.block ≠ gb768 := Nat.ne_of_lt (Nat.lt_of_lt_of_le (by have := World.block_lt_of_cell? _ _ hx769_0; first | rwa [add_block] at this | exact this) GW768.out)
      have hn769_9 : ad769.block ≠ gb768 := Nat.ne_of_lt (Nat.lt_of_lt_of_le (by have := World.block_lt_of_cell? _ _ hx769_0; first | rwa [add_block] at this | exact this) GW768.out)
      replace hx769_0 := bc_ HB hx769_0
      replace hx769_1 := bc_ HB hx769_1
      replace hx769_2 := bc_ HB hx769_2
      have HR769_1 := Aside0.mk hi769_1
      have HC769_1 := Aside0.mk hl769_1
      clear hi769_1 hl769_1
      have HR769_2 := Aside0.mk hi769_2
      have HC769_2 := Aside0.mk hl769_2
      clear hi769_2 hl769_2
      replace hx769_0 := (cell_far (p := ⟨gb768, 0, none⟩) (aB_ hn769_0) (.int .i64 t750)).trans hx769_0
      replace hx769_1 := (cell_far (p := ⟨gb768, 0, none⟩) (aB_ hn769_0) (.int .i64 t750)).trans hx769_1
      replace hx769_2 := (cell_far (p := ⟨gb768, 0, none⟩) (aB_ hn769_0) (.int .i64 t750)).trans hx769_2
      replace hx769_0 := (cell_far (p := ⟨gb768, 1, none⟩) (aB_ hn769_1) (.int .i64 t751)).trans hx769_0
      replace hx769_1 := (cell_far (p := ⟨gb768, 1, none⟩) (aB_ hn769_1) (.int .i64 t751)).trans hx769_1
      replace hx769_2 := (cell_far (p := ⟨gb768, 1, none⟩) (aB_ hn769_1) (.int .i64 t751)).trans hx769_2
      replace hx769_0 := (cell_far (p := ⟨gb768, 2, none⟩) (aB_ hn769_2) (.int .i64 t752)).trans hx769_0
      replace hx769_1 := (cell_far (p := ⟨gb768, 2, none⟩) (aB_ hn769_2) (.int .i64 t752)).trans hx769_1
      replace hx769_2 := (cell_far (p := ⟨gb768, 2, none⟩) (aB_ hn769_2) (.int .i64 t752)).trans hx769_2
      replace hx769_0 := (cell_far (p := ⟨gb768, 3, none⟩) (aB_ hn769_3) (.slice Ao18 t753.length co18)).trans hx769_0
      replace hx769_1 := (cell_far (p := ⟨gb768, 3, none⟩) (aB_ hn769_3) (.slice Ao18 t753.length co18)).trans hx769_1
      replace hx769_2 := (cell_far (p := ⟨gb768, 3, none⟩) (aB_ hn769_3) (.slice Ao18 t753.length co18)).trans hx769_2
      replace hx769_0 := (cell_far (p := ⟨gb768, 4, none⟩) (aB_ hn769_4) (.slice Ao19 t756.length co19)).trans hx769_0
      replace hx769_1 := (cell_far (p := ⟨gb768, 4, none⟩) (aB_ hn769_4) (.slice Ao19 t756.length co19)).trans hx769_1
      replace hx769_2 := (cell_far (p := ⟨gb768, 4, none⟩) (aB_ hn769_4) (.slice Ao19 t756.length co19)).trans hx769_2
      replace hx769_0 := (cell_far (p := ⟨gb768, 5, none⟩) (aB_ hn769_5) (.slice Ao20 t759.length co20)).trans hx769_0
      replace hx769_1 := (cell_far (p := ⟨gb768, 5, none⟩) (aB_ hn769_5) (.slice Ao20 t759.length co20)).trans hx769_1
      replace hx769_2 := (cell_far (p := ⟨gb768, 5, none⟩) (aB_ hn769_5) (.slice Ao20 t759.length co20)).trans hx769_2
      replace hx769_0 := (cell_far (p := ⟨gb768, 6, none⟩) (aB_ hn769_6) (.slice Ao21 t762.length co21)).trans hx769_0
      replace hx769_1 := (cell_far (p := ⟨gb768, 6, none⟩) (aB_ hn769_6) (.slice Ao21 t762.length co21)).trans hx769_1
      replace hx769_2 := (cell_far (p := ⟨gb768, 6, none⟩) (aB_ hn769_6) (.slice Ao21 t762.length co21)).trans hx769_2
      replace hx769_0 := (cell_far (p := ⟨gb768, 7, none⟩) (aB_ hn769_7) (.int .i64 t765)).trans hx769_0
      replace hx769_1 := (cell_far (p := ⟨gb768, 7, none⟩) (aB_ hn769_7) (.int .i64 t765)).trans hx769_1
      replace hx769_2 := (cell_far (p := ⟨gb768, 7, none⟩) (aB_ hn769_7) (.int .i64 t765)).trans hx769_2
      replace hx769_0 := (cell_far (p := ⟨gb768, 8, none⟩) (aB_ hn769_8) (.int .i64 t766)).trans hx769_0
      replace hx769_1 := (cell_far (p := ⟨gb768, 8, none⟩) (aB_ hn769_8) (.int .i64 t766)).trans hx769_1
      replace hx769_2 := (cell_far (p := ⟨gb768, 8, none⟩) (aB_ hn769_8) (.int .i64 t766)).trans hx769_2
      replace hx769_0 := (cell_far (p := ⟨gb768, 9, none⟩) (aB_ hn769_9) (.bool t767)).trans hx769_0
      replace hx769_1 := (cell_far (p := ⟨gb768, 9, none⟩) (aB_ hn769_9) (.bool t767)).trans hx769_1
      replace hx769_2 := (cell_far (p := ⟨gb768, 9, none⟩) (aB_ hn769_9) (.bool t767)).trans hx769_2
      clear hn769_0
      clear hn769_1
      clear hn769_2
      clear hn769_3
      clear hn769_4
      clear hn769_5
      clear hn769_6
      clear hn769_7
      clear hn769_8
      clear hn769_9
      replace p769 := eq_true p769
      replace q769 := eq_true q769
      go_wp2
      go_meet
      case rel => exact ⟨_, (decide ((((rd_T39 l0 a1_0).f1).length : Int) > 0)), tS_, H', ⟨by first | omega | exact Nat.le_refl _⟩, ⟨by (with_reducible repeat (first | apply Kd.R_alloc | apply Kd.R_drewN | apply Kd.R_drew)); exact Kd.R_mono (far10_ (Kd.R_types HO755.out BK768.out (by decide)) gb768 (fun _ hk => hk.2) (.int .i64 t750) (.int .i64 t751) (.int .i64 t752) (.slice Ao18 t753.length co18) (.slice Ao19 t756.length co19) (.slice Ao20 t759.length co20) (.slice Ao21 t762.length co21) (.int .i64 t765) (.int .i64 t766) (.bool t767)) (fun _ hk => ⟨hk.1.1, ⟨hk.1.2.1, hk.1.2.2⟩⟩)⟩, ⟨by (with_reducible repeat (first | apply Kd.R_alloc | apply Kd.R_drewN | apply Kd.R_drew)); exact Kd.R_mono (far10_ (Kd.R_types HO758.out BK768.out (by decide)) gb768 (fun _ hk => hk.2) (.int .i64 t750) (.int .i64 t751) (.int .i64 t752) (.slice Ao18 t753.length co18) (.slice Ao19 t756.length co19) (.slice Ao20 t759.length co20) (.slice Ao21 t762.length co21) (.int .i64 t765) (.int .i64 t766) (.bool t767)) (fun _ hk => ⟨hk.1.1, ⟨hk.1.2.1, hk.1.2.2⟩⟩)⟩, ⟨by (with_reducible repeat (first | apply Kd.R_alloc | apply Kd.R_drewN | apply Kd.R_drew)); exact Kd.R_mono (far10_ (Kd.R_types HO761.out BK768.out (by decide)) gb768 (fun _ hk => hk.2) (.int .i64 t750) (.int .i64 t751) (.int .i64 t752) (.slice Ao18 t753.length co18) (.slice Ao19 t756.length co19) (.slice Ao20 t759.length co20) (.slice Ao21 t762.length co21) (.int .i64 t765) (.int .i64 t766) (.bool t767)) (fun _ hk => ⟨hk.1.1, ⟨hk.1.2.1, hk.1.2.2⟩⟩)⟩, ⟨by (with_reducible repeat (first | apply Kd.R_alloc | apply Kd.R_drewN | apply Kd.R_drew)); exact Kd.R_mono (far10_ (Kd.R_types HO764.out BK768.out (by decide)) gb768 (fun _ hk => hk.2) (.int .i64 t750) (.int .i64 t751) (.int .i64 t752) (.slice Ao18 t753.length co18) (.slice Ao19 t756.length co19) (.slice Ao20 t759.length co20) (.slice Ao21 t762.length co21) (.int .i64 t765) (.int .i64 t766) (.bool t767)) (fun _ hk => ⟨hk.1.1, ⟨hk.1.2.1, hk.1.2.2⟩⟩)⟩, ⟨dF10_ BK747 NB747_768⟩, ⟨dF10_ BK748 NB748_768⟩, ⟨dP10_ BK768⟩, ⟨dL3_ HB GE747 GE748 GE768⟩⟩
     ·rw [if_neg c24] at H
      exact absurd H (by simp)
    ·rw [if_neg c23] at H
     exact absurd H (by simp)
   ·replace c22 := Bool.eq_false_iff.mpr c22
    subst c22
    have H1 : (hinterlandref10_Work.j0 k l0 true a1_0 a1_1 a1_2 l1_3 l1_4 l1_5 l1_6 a1_7 a1_8 false t750 t751 t752 t753 t756 t759 t762 t765 t766 t767) = some (r1, r2, r3, r4, r5, r6, r7, r8, r9, r10, r11) := by rw [if_neg (show ¬ (false = true) by decide)] at H; exact H
    clear H
    have H := H1
    clear H1
    have H' := Aside0.mk H
    clear H
    have hnb28 := NB747_748.out
    have hnc28 := NB748_747.out
    have hnb29 := NB747_768.out
    have hnc29 := NB768_747.out
    obtain ⟨hcz30_0, hcz30_1, hcz30_2, hcz30_3, hcz30_4, hcz30_5, hcz30_6, hcz30_7, hcz30_8, hcz30_9, hfz30_0, hfz30_1, hfz30_2, hfz30_3, hfz30_4, hfz30_5, hfz30_6, hfz30_7, hfz30_8, hfz30_9⟩ := cs10_ BK747.out
    go_wp2
    go_meet
    case rel => exact ⟨_, (true), tS_, H', ⟨by first | omega | exact Nat.le_refl _⟩, ⟨by (with_reducible repeat (first | apply Kd.R_alloc | apply Kd.R_drewN | apply Kd.R_drew)); exact Kd.R_mono (far10_ (Kd.R_types HO755.out BK768.out (by decide)) gb768 (fun _ hk => hk.2) (.int .i64 t750) (.int .i64 t751) (.int .i64 t752) (.slice Ao18 t753.length co18) (.slice Ao19 t756.length co19) (.slice Ao20 t759.length co20) (.slice Ao21 t762.length co21) (.int .i64 t765) (.int .i64 t766) (.bool t767)) (fun _ hk => ⟨hk.1.1, ⟨hk.1.2.1, hk.1.2.2⟩⟩)⟩, ⟨by (with_reducible repeat (first | apply Kd.R_alloc | apply Kd.R_drewN | apply Kd.R_drew)); exact Kd.R_mono (far10_ (Kd.R_types HO758.out BK768.out (by decide)) gb768 (fun _ hk => hk.2) (.int .i64 t750) (.int .i64 t751) (.int .i64 t752) (.slice Ao18 t753.length co18) (.slice Ao19 t756.length co19) (.slice Ao20 t759.length co20) (.slice Ao21 t762.length co21) (.int .i64 t765) (.int .i64 t766) (.bool t767)) (fun _ hk => ⟨hk.1.1, ⟨hk.1.2.1, hk.1.2.2⟩⟩)⟩, ⟨by (with_reducible repeat (first | apply Kd.R_alloc | apply Kd.R_drewN | apply Kd.R_drew)); exact Kd.R_mono (far10_ (Kd.R_types HO761.out BK768.out (by decide)) gb768 (fun _ hk => hk.2) (.int .i64 t750) (.int .i64 t751) (.int .i64 t752) (.slice Ao18 t753.length co18) (.slice Ao19 t756.length co19) (.slice Ao20 t759.length co20) (.slice Ao21 t762.length co21) (.int .i64 t765) (.int .i64 t766) (.bool t767)) (fun _ hk => ⟨hk.1.1, ⟨hk.1.2.1, hk.1.2.2⟩⟩)⟩, ⟨by (with_reducible repeat (first | apply Kd.R_alloc | apply Kd.R_drewN | apply Kd.R_drew)); exact Kd.R_mono (far10_ (Kd.R_types HO764.out BK768.out (by decide)) gb768 (fun _ hk => hk.2) (.int .i64 t750) (.int .i64 t751) (.int .i64 t752) (.slice Ao18 t753.length co18) (.slice Ao19 t756.length co19) (.slice Ao20 t759.length co20) (.slice Ao21 t762.length co21) (.int .i64 t765) (.int .i64 t766) (.bool t767)) (fun _ hk => ⟨hk.1.1, ⟨hk.1.2.1, hk.1.2.2⟩⟩)⟩, ⟨dF10_ BK747 NB747_768⟩, ⟨dF10_ BK748 NB748_768⟩, ⟨dP10_ BK768⟩, ⟨dL3_ HB GE747 GE748 GE768⟩⟩
  case rest =>
   clear HC6
   try clear c4
   try clear c4b0
   try clear c4b1
   try clear c23
   try clear c24
   try clear hcz10_0
   try clear hcz10_1
   try clear hcz10_2
   try clear hcz10_3
   try clear hcz10_4
   try clear hcz10_5
   try clear hcz10_6
   try clear hcz10_7
   try clear hcz10_8
   try clear hcz10_9
   try clear hcz12_0
   try clear hcz12_1
   try clear hcz12_2
   try clear hcz12_3
   try clear hcz12_4
   try clear hcz12_5
   try clear hcz12_6
   try clear hcz12_7
   try clear hcz12_8
   try clear hcz12_9
   try clear hcz17_0
   try clear hcz17_1
   try clear hcz17_2
   try clear hcz17_3
   try clear hcz17_4
   try clear hcz17_5
   try clear hcz17_6
   try clear hcz17_7
   try clear hcz17_8
   try clear hcz17_9
   try clear hfz10_0
   try clear hfz10_1
   try clear hfz10_2
   try clear hfz10_3
   try clear hfz10_4
   try clear hfz10_5
   try clear hfz10_6
   try clear hfz10_7
   try clear hfz10_8
   try clear hfz10_9
   try clear hfz12_0
   try clear hfz12_1
   try clear hfz12_2
   try clear hfz12_3
   try clear hfz12_4
   try clear hfz12_5
   try clear hfz12_6
   try clear hfz12_7
   try clear hfz12_8
   try clear hfz12_9
   try clear hfz17_0
   try clear hfz17_1
   try clear hfz17_2
   try clear hfz17_3
   try clear hfz17_4
   try clear hfz17_5
   try clear hfz17_6
   try clear hfz17_7
   try clear hfz17_8
   try clear hfz17_9
   obtain ⟨kq, x32_5, rfl, HA, HJ5, HO_769003, HO_769004, HO_769005, HO_769006, BK747, BK748, BK768, HB⟩ := hcut
   cases kq with
   | zero => exact absurd HA.out (by simp [hinterlandref10_Work.j0])
   | succ kj5 =>
    have H := HA.out
    clear HA
    simp only [hinterlandref10_Work.j0] at H
    by_cases c31 : x32_5 = true
    ·subst c31
     have H1 : (some (t750, t751, t752, t753, t756, t759, t762, t765, t766, t767, 0)) = some (r1, r2, r3, r4, r5, r6, r7, r8, r9, r10, r11) := by rw [if_pos rfl] at H; exact H
     clear H
     have H := H1
     clear H1
     simp only [Option.some.injEq, Prod.mk.injEq] at H
     obtain ⟨rfl, rfl, rfl, rfl, rfl, rfl, rfl, rfl, rfl, rfl, rfl⟩ := H
     have hnb32 := NB768_747.out
     have hnc32 := NB747_768.out
     have hnb33 := NB768_748.out
     have hnc33 := NB748_768.out
     obtain ⟨hcz34_0, hcz34_1, hcz34_2, hcz34_3, hcz34_4, hcz34_5, hcz34_6, hcz34_7, hcz34_8, hcz34_9, hfz34_0, hfz34_1, hfz34_2, hfz34_3, hfz34_4, hfz34_5, hfz34_6, hfz34_7, hfz34_8, hfz34_9⟩ := cs10_ BK768.out
     have hnb35 := NB748_747.out
     have hnc35 := NB747_748.out
     obtain ⟨hcz36_0, hcz36_1, hcz36_2, hcz36_3, hcz36_4, hcz36_5, hcz36_6, hcz36_7, hcz36_8, hcz36_9, hfz36_0, hfz36_1, hfz36_2, hfz36_3, hfz36_4, hfz36_5, hfz36_6, hfz36_7, hfz36_8, hfz36_9⟩ := cs10_ BK748.out
     go_wp2
     refine bodyPost_ret (results_ct rfl _ _ gb748 25 #[.int .i64 t750, .int .i64 t751, .int .i64 t752, .slice Ao18 t753.length co18, .slice Ao19 t756.length co19, .slice Ao20 t759.length co20, .slice Ao21 t762.length co21, .int .i64 t765, .int .i64 t766, .bool t767] (0, 0) _ rfl (dP10_ BK748) Try.underlying25 rfl (by kernel_rfl)) rfl ?_
     exact ⟨_, _, _, _, tE_, by (with_reducible repeat (first | apply Kd.R_alloc | apply Kd.R_drewN | apply Kd.R_drew)); exact Kd.R_mono (far10_ (Kd.R_types HO_769003.out BK748.out (by decide)) gb748 (fun _ hk => hk.2) (.int .i64 t750) (.int .i64 t751) (.int .i64 t752) (.slice Ao18 t753.length co18) (.slice Ao19 t756.length co19) (.slice Ao20 t759.length co20) (.slice Ao21 t762.length co21) (.int .i64 t765) (.int .i64 t766) (.bool t767)) (fun _ hk => ⟨hk.1.1, ⟨hk.1.2.1, hk.1.2.2⟩⟩), by (with_reducible repeat (first | apply Kd.R_alloc | apply Kd.R_drewN | apply Kd.R_drew)); exact Kd.R_mono (far10_ (Kd.R_types HO_769004.out BK748.out (by decide)) gb748 (fun _ hk => hk.2) (.int .i64 t750) (.int .i64 t751) (.int .i64 t752) (.slice Ao18 t753.length co18) (.slice Ao19 t756.length co19) (.slice Ao20 t759.length co20) (.slice Ao21 t762.length co21) (.int .i64 t765) (.int .i64 t766) (.bool t767)) (fun _ hk => ⟨hk.1.1, ⟨hk.1.2.1, hk.1.2.2⟩⟩), by (with_reducible repeat (first | apply Kd.R_alloc | apply Kd.R_drewN | apply Kd.R_drew)); exact Kd.R_mono (far10_ (Kd.R_types HO_769005.out BK748.out (by decide)) gb748 (fun _ hk => hk.2) (.int .i64 t750) (.int .i64 t751) (.int .i64 t752) (.slice Ao18 t753.length co18) (.slice Ao19 t756.length co19) (.slice Ao20 t759.length co20) (.slice Ao21 t762.length co21) (.int .i64 t765) (.int .i64 t766) (.bool t767)) (fun _ hk => ⟨hk.1.1, ⟨hk.1.2.1, hk.1.2.2⟩⟩), by (with_reducible repeat (first | apply Kd.R_alloc | apply Kd.R_drewN | apply Kd.R_drew)); exact Kd.R_mono (far10_ (Kd.R_types HO_769006.out BK748.out (by decide)) gb748 (fun _ hk => hk.2) (.int .i64 t750) (.int .i64 t751) (.int .i64 t752) (.slice Ao18 t753.length co18) (.slice Ao19 t756.length co19) (.slice Ao20 t759.length co20) (.slice Ao21 t762.length co21) (.int .i64 t765) (.int .i64 t766) (.bool t767)) (fun _ hk => ⟨hk.1.1, ⟨hk.1.2.1, hk.1.2.2⟩⟩), dL3_ HB GE747 GE748 GE768⟩
    ·replace c31 := Bool.eq_false_iff.mpr c31
     subst c31
     have H1 : (if 0 ≤ a1_0 then (if a1_0 < (l0.length : Int) then (hinterlandref10_Work.l0 kj5 ((rd_T39 l0 a1_0).f2) (((rd_T39 l0 a1_0).f2).length : Int) 0 a1_0 a1_1 a1_2 l1_3 l1_4 l1_5 l1_6 a1_7 a1_8 a1_9 t750 t751 t752 t753 t756 t759 t762 t765 t766 t767) else (none)) else (none)) = some (r1, r2, r3, r4, r5, r6, r7, r8, r9, r10, r11) := by rw [if_neg (show ¬ (false = true) by decide)] at H; exact H
     clear H
     have H := H1
     clear H1
     by_cases c37 : 0 ≤ a1_0
     ·rw [if_pos c37] at H
      have c37b0 : decide (0 ≤ a1_0) = true := decide_eq_true c37
      clear c37
      by_cases c38 : a1_0 < (l0.length : Int)
      ·rw [if_pos c38] at H
       have c38b0 : decide (a1_0 < (l0.length : Int)) = true := decide_eq_true c38
       clear c38
       have H' := Aside0.mk H
       clear H
       have hnb39 := NB747_748.out
       have hnc39 := NB748_747.out
       have hnb40 := NB747_768.out
       have hnc40 := NB768_747.out
       obtain ⟨hcz41_0, hcz41_1, hcz41_2, hcz41_3, hcz41_4, hcz41_5, hcz41_6, hcz41_7, hcz41_8, hcz41_9, hfz41_0, hfz41_1, hfz41_2, hfz41_3, hfz41_4, hfz41_5, hfz41_6, hfz41_7, hfz41_8, hfz41_9⟩ := cs10_ BK747.out
       have p770 : 0 ≤ (a1_0 : Int) := of_decide_eq_true tW_
       have q770 : a1_0 < (l0.length : Int) := of_decide_eq_true tW_
       obtain ⟨ad770, A770_1, c770_1, A770_2, c770_2, e770, hx770_0, hx770_1, hx770_2, hl770_1, hi770_1, hl770_2, hi770_2⟩ := at_T39 HR0.out a1_0 p770 q770
       cases e770
       replace hx770_0 := bc_ HB hx770_0
       replace hx770_1 := bc_ HB hx770_1
       replace hx770_2 := bc_ HB hx770_2
       have HR770_1 := Aside0.mk hi770_1
       have HC770_1 := Aside0.mk hl770_1
       clear hi770_1 hl770_1
       have HR770_2 := Aside0.mk hi770_2
       have HC770_2 := Aside0.mk hl770_2
       clear hi770_2 hl770_2
       replace p770 := eq_true p770
       replace q770 := eq_true q770
       go_wp2
       go_loopg [41] kj5 (fun kq v41 w' => ∃ (x41_2 : Int) (x769003_2 : List Int) (x769004_2 : List Int) (x769005_2 : List Int) (x769006_2 : List Int) (u769003 : Value) (u769004 : Value) (u769005 : Value) (u769006 : Value), v41 = .int .i64 x41_2 ∧ Aside0 (hinterlandref10_Work.l0 kq ((rd_T39 l0 a1_0).f2) (((rd_T39 l0 a1_0).f2).length : Int) x41_2 a1_0 a1_1 a1_2 l1_3 l1_4 l1_5 l1_6 a1_7 a1_8 a1_9 t750 t751 t752 x769003_2 x769004_2 x769005_2 x769006_2 t765 t766 t767 = some (r1, r2, r3, r4, r5, r6, r7, r8, r9, r10, r11)) ∧ Aside0 (kq ≤ kj5) ∧ Aside0 (Kd.R (Kd.int .i64) 3 w' w.heap.size (fun k_ => some k_ ≠ (u769004 : Value).ownBlock ∧ some k_ ≠ (u769005 : Value).ownBlock ∧ some k_ ≠ (u769006 : Value).ownBlock) u769003 x769003_2) ∧ Aside0 (Kd.R (Kd.int .i64) 3 w' w.heap.size (fun k_ => some k_ ≠ (u769003 : Value).ownBlock ∧ some k_ ≠ (u769005 : Value).ownBlock ∧ some k_ ≠ (u769006 : Value).ownBlock) u769004 x769004_2) ∧ Aside0 (Kd.R (Kd.int .i64) 3 w' w.heap.size (fun k_ => some k_ ≠ (u769003 : Value).ownBlock ∧ some k_ ≠ (u769004 : Value).ownBlock ∧ some k_ ≠ (u769006 : Value).ownBlock) u769005 x769005_2) ∧ Aside0 (Kd.R (Kd.int .i64) 3 w' w.heap.size (fun k_ => some k_ ≠ (u769003 : Value).ownBlock ∧ some k_ ≠ (u769004 : Value).ownBlock ∧ some k_ ≠ (u769005 : Value).ownBlock) u769006 x769006_2) ∧ Aside0 (w'.heap[gb747]? = some (.cells #[.int .i64 a1_0, .int .i64 a1_1, .int .i64 a1_2, (.slice A1_3 l1_3.length c1_3), (.slice A1_4 l1_4.length c1_4), (.slice A1_5 l1_5.length c1_5), (.slice A1_6 l1_6.length c1_6), .int .i64 a1_7, .int .i64 a1_8, .bool a1_9] 25 (0, 0))) ∧ Aside0 (w'.heap[gb748]? = some (.cells #[.int .i64 0, .int .i64 0, .int .i64 0, (.slice none 0 0), (.slice none 0 0), (.slice none 0 0), (.slice none 0 0), .int .i64 0, .int .i64 0, .bool false] 25 (0, 0))) ∧ Aside0 (w'.heap[gb768]? = some (.cells #[.int .i64 t750, .int .i64 t751, .int .i64 t752, u769003, u769004, u769005, u769006, .int .i64 t765, .int .i64 t766, .bool t767] 25 (0, 0))) ∧ Aside0 (Below w.heap.size w w'))
       case atStart => exact ⟨(0), (t753), (t756), (t759), (t762), (.slice Ao18 t753.length co18), (.slice Ao19 t756.length co19), (.slice Ao20 t759.length co20), (.slice Ao21 t762.length co21), tS_, H', ⟨Nat.le_refl _⟩, ⟨dR_ HO_769003⟩, ⟨dR_ HO_769004⟩, ⟨dR_ HO_769005⟩, ⟨dR_ HO_769006⟩, ⟨dB_ BK747⟩, ⟨dB_ BK748⟩, ⟨dB_ BK768⟩, ⟨dL3_ HB GE747 GE748 GE768⟩⟩
       case round =>
        clear H'
        try clear c4
        try clear c4b0
        try clear c4b1
        try clear c23
        try clear c24
        try clear c31
        try clear c37
        try clear c37b0
        try clear c38
        try clear c38b0
        try clear hcz10_0
        try clear hcz10_1
        try clear hcz10_2
        try clear hcz10_3
        try clear hcz10_4
        try clear hcz10_5
        try clear hcz10_6
        try clear hcz10_7
        try clear hcz10_8
        try clear hcz10_9
        try clear hcz12_0
        try clear hcz12_1
        try clear hcz12_2
        try clear hcz12_3
        try clear hcz12_4
        try clear hcz12_5
        try clear hcz12_6
        try clear hcz12_7
        try clear hcz12_8
        try clear hcz12_9
        try clear hcz17_0
        try clear hcz17_1
        try clear hcz17_2
        try clear hcz17_3
        try clear hcz17_4
        try clear hcz17_5
        try clear hcz17_6
        try clear hcz17_7
        try clear hcz17_8
        try clear hcz17_9
        try clear hcz41_0
        try clear hcz41_1
        try clear hcz41_2
        try clear hcz41_3
        try clear hcz41_4
        try clear hcz41_5
        try clear hcz41_6
        try clear hcz41_7
        try clear hcz41_8
        try clear hcz41_9
        try clear hfz10_0
        try clear hfz10_1
        try clear hfz10_2
        try clear hfz10_3
        try clear hfz10_4
        try clear hfz10_5
        try clear hfz10_6
        try clear hfz10_7
        try clear hfz10_8
        try clear hfz10_9
        try clear hfz12_0
        try clear hfz12_1
        try clear hfz12_2
        try clear hfz12_3
        try clear hfz12_4
        try clear hfz12_5
        try clear hfz12_6
        try clear hfz12_7
        try clear hfz12_8
        try clear hfz12_9
        try clear hfz17_0
        try clear hfz17_1
        try clear hfz17_2
        try clear hfz17_3
        try clear hfz17_4
        try clear hfz17_5
        try clear hfz17_6
        try clear hfz17_7
        try clear hfz17_8
        try clear hfz17_9
        try clear hfz41_0
        try clear hfz41_1
        try clear hfz41_2
        try clear hfz41_3
        try clear hfz41_4
        try clear hfz41_5
        try clear hfz41_6
        try clear hfz41_7
        try clear hfz41_8
        try clear hfz41_9
        try clear hx770_0
        try clear hx770_1
        try clear hx770_2
        try clear p770
        try clear q770
        obtain ⟨x41_2, x769003_2, x769004_2, x769005_2, x769006_2, u769003, u769004, u769005, u769006, rfl, HA, HK2, HO_769003, HO_769004, HO_769005, HO_769006, BK747, BK748, BK768, HB⟩ := hrel
        cases gk with
        | zero => exact absurd HA.out (by simp [hinterlandref10_Work.l0])
        | succ k2 =>
         have H := HA.out
         clear HA
         simp only [hinterlandref10_Work.l0] at H
         by_cases c42 : x41_2 < (((rd_T39 l0 a1_0).f2).length : Int)
         ·rw [if_pos c42] at H
          have c42b0 : decide (x41_2 < (((rd_T39 l0 a1_0).f2).length : Int)) = true := decide_eq_true c42
          clear c42
          by_cases c43 : 0 ≤ x41_2
          ·rw [if_pos c43] at H
           have c43b0 : decide (0 ≤ x41_2) = true := decide_eq_true c43
           clear c43
           by_cases c44 : x41_2 < (((rd_T39 l0 a1_0).f2).length : Int)
           ·rw [if_pos c44] at H
            have c44b0 : decide (x41_2 < (((rd_T39 l0 a1_0).f2).length : Int)) = true := decide_eq_true c44
            clear c44
            by_cases c45 : x41_2 < (l1_3.length : Int)
            ·rw [if_pos c45] at H
             have c45b0 : decide (x41_2 < (l1_3.length : Int)) = true := decide_eq_true c45
             clear c45
             obtain ⟨ji46, hji46⟩ : ∃ j_ : Int, (mn (wrap64 (Int.tdiv (wrap64 (((rd_T41 ((rd_T39 l0 a1_0).f2) x41_2).f1) * a1_2)) 16)) (wrap64 (1000000 - (rd l1_3 x41_2)))) = j_ := ⟨_, rfl⟩
             replace H : (if x41_2 < (x769003_2.length : Int) then (if x41_2 < (x769005_2.length : Int) then (hinterlandref10_Work.l0 k2 ((rd_T39 l0 a1_0).f2) (((rd_T39 l0 a1_0).f2).length : Int) (wrap64 (x41_2 + 1)) a1_0 a1_1 a1_2 l1_3 l1_4 l1_5 l1_6 a1_7 a1_8 a1_9 t750 t751 t752 (x769003_2.set (x41_2 : Int).toNat (wrap64 ((rd x769003_2 x41_2) + (ji46)))) x769004_2 (x769005_2.set (x41_2 : Int).toNat (mn (wrap64 ((rd x769005_2 x41_2) + (ji46))) 1000000)) x769006_2 t765 t766 t767) else (none)) else (none)) = some (r1, r2, r3, r4, r5, r6, r7, r8, r9, r10, r11) := by first | (rw [hji46] at H; exact H) | (simp only [hji46] at H ⊢; exact H)
             have hji46_ : (if (wrap64 (1000000 - (rd l1_3 x41_2))) < (wrap64 (Int.tdiv (wrap64 (((rd_T41 ((rd_T39 l0 a1_0).f2) x41_2).f1) * a1_2)) 16)) then (wrap64 (1000000 - (rd l1_3 x41_2))) else (wrap64 (Int.tdiv (wrap64 (((rd_T41 ((rd_T39 l0 a1_0).f2) x41_2).f1) * a1_2)) 16))) = ji46 := hji46
             by_cases c47 : x41_2 < (x769003_2.length : Int)
             ·rw [if_pos c47] at H
              have c47b0 : decide (x41_2 < (x769003_2.length : Int)) = true := decide_eq_true c47
              clear c47
              obtain ⟨y775, hy775⟩ : ∃ y_ : List Int, y_ = (x769003_2.set (x41_2 : Int).toNat (wrap64 ((rd x769003_2 x41_2) + (ji46)))) := ⟨_, rfl⟩
              replace H : (if x41_2 < (x769005_2.length : Int) then (hinterlandref10_Work.l0 k2 ((rd_T39 l0 a1_0).f2) (((rd_T39 l0 a1_0).f2).length : Int) (wrap64 (x41_2 + 1)) a1_0 a1_1 a1_2 l1_3 l1_4 l1_5 l1_6 a1_7 a1_8 a1_9 t750 t751 t752 y775 x769004_2 (x769005_2.set (x41_2 : Int).toNat (mn (wrap64 ((rd x769005_2 x41_2) + (ji46))) 1000000)) x769006_2 t765 t766 t767) else (none)) = some (r1, r2, r3, r4, r5, r6, r7, r8, r9, r10, r11) := by first | (rw [hy775]; with_reducible exact H) | (have H2_ := (Option.bind_some _ _).symm.trans H; rw [hy775]; with_reducible exact H2_) | (have H2_ := (Option.bind_some _ _).symm.trans H; with_reducible exact H2_) | with_reducible exact H | (rw [hy775]; exact H) | exact H
              have Ny775 := Aside0.mk hy775
              clear hy775
              by_cases c49 : x41_2 < (x769005_2.length : Int)
              ·rw [if_pos c49] at H
               have c49b0 : decide (x41_2 < (x769005_2.length : Int)) = true := decide_eq_true c49
               clear c49
               obtain ⟨ji50, hji50⟩ : ∃ j_ : Int, (mn (wrap64 ((rd x769005_2 x41_2) + (ji46))) 1000000) = j_ := ⟨_, rfl⟩
               replace H : (hinterlandref10_Work.l0 k2 ((rd_T39 l0 a1_0).f2) (((rd_T39 l0 a1_0).f2).length : Int) (wrap64 (x41_2 + 1)) a1_0 a1_1 a1_2 l1_3 l1_4 l1_5 l1_6 a1_7 a1_8 a1_9 t750 t751 t752 y775 x769004_2 (x769005_2.set (x41_2 : Int).toNat (ji50)) x769006_2 t765 t766 t767) = some (r1, r2, r3, r4, r5, r6, r7, r8, r9, r10, r11) := by first | (rw [hji50] at H; exact H) | (simp only [hji50] at H ⊢; exact H)
               have hji50_ : (if 1000000 < (wrap64 ((rd x769005_2 x41_2) + (ji46))) then 1000000 else (wrap64 ((rd x769005_2 x41_2) + (ji46)))) = ji50 := hji50
               obtain ⟨y777, hy777⟩ : ∃ y_ : List Int, y_ = (x769005_2.set (x41_2 : Int).toNat (ji50)) := ⟨_, rfl⟩
               replace H : (hinterlandref10_Work.l0 k2 ((rd_T39 l0 a1_0).f2) (((rd_T39 l0 a1_0).f2).length : Int) (wrap64 (x41_2 + 1)) a1_0 a1_1 a1_2 l1_3 l1_4 l1_5 l1_6 a1_7 a1_8 a1_9 t750 t751 t752 y775 x769004_2 y777 x769006_2 t765 t766 t767) = some (r1, r2, r3, r4, r5, r6, r7, r8, r9, r10, r11) := by first | (rw [hy777]; with_reducible exact H) | (have H2_ := (Option.bind_some _ _).symm.trans H; rw [hy777]; with_reducible exact H2_) | (have H2_ := (Option.bind_some _ _).symm.trans H; with_reducible exact H2_) | with_reducible exact H | (rw [hy777]; exact H) | exact H
               have Ny777 := Aside0.mk hy777
               clear hy777
               have H' := Aside0.mk H
               clear H
               have p771 : 0 ≤ (x41_2 : Int) := of_decide_eq_true tW_
               have q771 : x41_2 < (((rd_T39 l0 a1_0).f2).length : Int) := of_decide_eq_true tW_
               obtain ⟨ad771, e771, hx771_0, hx771_1⟩ := at_T41 HR770_2.out x41_2 p771 q771
               cases e771
               replace hx771_0 := bc_ HB hx771_0
               replace hx771_1 := bc_ HB hx771_1
               replace p771 := eq_true p771
               replace q771 := eq_true q771
               try go_wp2_with (first | ((with_reducible refine gate_dst (N := 9) rfl ?_); (try (refine gate_guard (by rfl) ?_; dsimp only)); refine box_event ?hg (N := 9) ?hd (cs := #[.int .i64 0, .int .i64 0]) (t := 41) ?hr ?_; (case hd => rfl); (case hg => rfl); (case hr => first | (go_simp; done) | (go_simp; rfl)); intro gb772 hg w52 hbox hb; replace HO_769003 := Aside0.mk (Kd.R_below (dR_ HO_769003) hb); replace HO_769004 := Aside0.mk (Kd.R_below (dR_ HO_769004) hb); replace HO_769005 := Aside0.mk (Kd.R_below (dR_ HO_769005) hb); replace HO_769006 := Aside0.mk (Kd.R_below (dR_ HO_769006) hb); have BK772 := Aside0.mk (hbox); have GW772 := Aside0.mk ((dS_ hg (dL3_ HB GE747 GE748 GE768) : w.heap.size ≤ gb772)); have GE772 := Aside0.mk ((dS_ hg (dL3_ HB GE747 GE748 GE768) : w.heap.size ≤ gb772)); replace HB := Aside0.mk (below_step (dL3_ HB GE747 GE748 GE768) hb); have NB747_772 := Aside0.mk ((by rw [hg]; exact Nat.ne_of_lt (blk_lt (dB_ BK747)) : gb747 ≠ gb772)); have NB772_747 := Aside0.mk ((by rw [hg]; exact Nat.ne_of_gt (blk_lt (dB_ BK747)) : gb772 ≠ gb747)); replace BK747 := Aside0.mk (blk_below (g := gb747) (o := .cells #[.int .i64 a1_0, .int .i64 a1_1, .int .i64 a1_2, .slice A1_3 l1_3.length c1_3, .slice A1_4 l1_4.length c1_4, .slice A1_5 l1_5.length c1_5, .slice A1_6 l1_6.length c1_6, .int .i64 a1_7, .int .i64 a1_8, .bool a1_9] 25 (0, 0)) (dB_ BK747) hb); have NB748_772 := Aside0.mk ((by rw [hg]; exact Nat.ne_of_lt (blk_lt (dB_ BK748)) : gb748 ≠ gb772)); have NB772_748 := Aside0.mk ((by rw [hg]; exact Nat.ne_of_gt (blk_lt (dB_ BK748)) : gb772 ≠ gb748)); replace BK748 := Aside0.mk (blk_below (g := gb748) (o := .cells #[.int .i64 0, .int .i64 0, .int .i64 0, .slice none 0 0, .slice none 0 0, .slice none 0 0, .slice none 0 0, .int .i64 0, .int .i64 0, .bool false] 25 (0, 0)) (dB_ BK748) hb); have NB768_772 := Aside0.mk ((by rw [hg]; exact Nat.ne_of_lt (blk_lt (dB_ BK768)) : gb768 ≠ gb772)); have NB772_768 := Aside0.mk ((by rw [hg]; exact Nat.ne_of_gt (blk_lt (dB_ BK768)) : gb772 ≠ gb768)); replace BK768 := Aside0.mk (blk_below (g := gb768) (o := .cells #[.int .i64 t750, .int .i64 t751, .int .i64 t752, u769003, u769004, u769005, u769006, .int .i64 t765, .int .i64 t766, .bool t767] 25 (0, 0)) (dB_ BK768) hb); clear hb hbox hg; have hnb53 := NB772_747.out; have hnc53 := NB747_772.out; have hnb54 := NB772_748.out; have hnc54 := NB748_772.out; have hnb55 := NB772_768.out; have hnc55 := NB768_772.out; obtain ⟨hcz56_0, hcz56_1, hfz56_0, hfz56_1⟩ := cs2_ BK772.out))
               have n0_ : Aside0 (Kd.R (Kd.int .i64) 3 ((w52.setCell ⟨gb772, 0, none⟩ (.int .i64 ((rd_T41 ((rd_T39 l0 a1_0).f2) x41_2).f0))).setCell ⟨gb772, 1, none⟩ (.int .i64 ((rd_T41 ((rd_T39 l0 a1_0).f2) x41_2).f1))) w.heap.size (fun k_ => some k_ ≠ (u769004 : Value).ownBlock ∧ some k_ ≠ (u769005 : Value).ownBlock ∧ some k_ ≠ (u769006 : Value).ownBlock) u769003 x769003_2) := ⟨by (with_reducible repeat (first | apply Kd.R_alloc | apply Kd.R_drewN | apply Kd.R_drew)); exact Kd.R_mono (Kd.R_far (p := ⟨gb772, 1, none⟩) (Kd.R_far (p := ⟨gb772, 0, none⟩) (Kd.R_types HO_769003.out BK772.out (by decide)) (fun _ hk => hk.2) (.int .i64 ((rd_T41 ((rd_T39 l0 a1_0).f2) x41_2).f0))) (fun _ hk => hk.2) (.int .i64 ((rd_T41 ((rd_T39 l0 a1_0).f2) x41_2).f1))) (fun _ hk => ⟨hk.1.1, ⟨hk.1.2.1, hk.1.2.2⟩⟩)⟩
               have n1_ : Aside0 (Kd.R (Kd.int .i64) 3 ((w52.setCell ⟨gb772, 0, none⟩ (.int .i64 ((rd_T41 ((rd_T39 l0 a1_0).f2) x41_2).f0))).setCell ⟨gb772, 1, none⟩ (.int .i64 ((rd_T41 ((rd_T39 l0 a1_0).f2) x41_2).f1))) w.heap.size (fun k_ => some k_ ≠ (u769003 : Value).ownBlock ∧ some k_ ≠ (u769005 : Value).ownBlock ∧ some k_ ≠ (u769006 : Value).ownBlock) u769004 x769004_2) := ⟨by (with_reducible repeat (first | apply Kd.R_alloc | apply Kd.R_drewN | apply Kd.R_drew)); exact Kd.R_mono (Kd.R_far (p := ⟨gb772, 1, none⟩) (Kd.R_far (p := ⟨gb772, 0, none⟩) (Kd.R_types HO_769004.out BK772.out (by decide)) (fun _ hk => hk.2) (.int .i64 ((rd_T41 ((rd_T39 l0 a1_0).f2) x41_2).f0))) (fun _ hk => hk.2) (.int .i64 ((rd_T41 ((rd_T39 l0 a1_0).f2) x41_2).f1))) (fun _ hk => ⟨hk.1.1, ⟨hk.1.2.1, hk.1.2.2⟩⟩)⟩
               have n2_ : Aside0 (Kd.R (Kd.int .i64) 3 ((w52.setCell ⟨gb772, 0, none⟩ (.int .i64 ((rd_T41 ((rd_T39 l0 a1_0).f2) x41_2).f0))).setCell ⟨gb772, 1, none⟩ (.int .i64 ((rd_T41 ((rd_T39 l0 a1_0).f2) x41_2).f1))) w.heap.size (fun k_ => some k_ ≠ (u769003 : Value).ownBlock ∧ some k_ ≠ (u769004 : Value).ownBlock ∧ some k_ ≠ (u769006 : Value).ownBlock) u769005 x769005_2) := ⟨by (with_reducible repeat (first | apply Kd.R_alloc | apply Kd.R_drewN | apply Kd.R_drew)); exact Kd.R_mono (Kd.R_far (p := ⟨gb772, 1, none⟩) (Kd.R_far (p := ⟨gb772, 0, none⟩) (Kd.R_types HO_769005.out BK772.out (by decide)) (fun _ hk => hk.2) (.int .i64 ((rd_T41 ((rd_T39 l0 a1_0).f2) x41_2).f0))) (fun _ hk => hk.2) (.int .i64 ((rd_T41 ((rd_T39 l0 a1_0).f2) x41_2).f1))) (fun _ hk => ⟨hk.1.1, ⟨hk.1.2.1, hk.1.2.2⟩⟩)⟩
               have n3_ : Aside0 (Kd.R (Kd.int .i64) 3 ((w52.setCell ⟨gb772, 0, none⟩ (.int .i64 ((rd_T41 ((rd_T39 l0 a1_0).f2) x41_2).f0))).setCell ⟨gb772, 1, none⟩ (.int .i64 ((rd_T41 ((rd_T39 l0 a1_0).f2) x41_2).f1))) w.heap.size (fun k_ => some k_ ≠ (u769003 : Value).ownBlock ∧ some k_ ≠ (u769004 : Value).ownBlock ∧ some k_ ≠ (u769005 : Value).ownBlock) u769006 x769006_2) := ⟨by (with_reducible repeat (first | apply Kd.R_alloc | apply Kd.R_drewN | apply Kd.R_drew)); exact Kd.R_mono (Kd.R_far (p := ⟨gb772, 1, none⟩) (Kd.R_far (p := ⟨gb772, 0, none⟩) (Kd.R_types HO_769006.out BK772.out (by decide)) (fun _ hk => hk.2) (.int .i64 ((rd_T41 ((rd_T39 l0 a1_0).f2) x41_2).f0))) (fun _ hk => hk.2) (.int .i64 ((rd_T41 ((rd_T39 l0 a1_0).f2) x41_2).f1))) (fun _ hk => ⟨hk.1.1, ⟨hk.1.2.1, hk.1.2.2⟩⟩)⟩
               have n4_ : Aside0 (((w52.setCell ⟨gb772, 0, none⟩ (.int .i64 ((rd_T41 ((rd_T39 l0 a1_0).f2) x41_2).f0))).setCell ⟨gb772, 1, none⟩ (.int .i64 ((rd_T41 ((rd_T39 l0 a1_0).f2) x41_2).f1))).heap[gb747]? = some (.cells #[.int .i64 a1_0, .int .i64 a1_1, .int .i64 a1_2, .slice A1_3 l1_3.length c1_3, .slice A1_4 l1_4.length c1_4, .slice A1_5 l1_5.length c1_5, .slice A1_6 l1_6.length c1_6, .int .i64 a1_7, .int .i64 a1_8, .bool a1_9] 25 (0, 0))) := ⟨by (with_reducible repeat (first | refine blk_drewN ?_ _ | refine blk_drew ?_ | refine blk_alloc ?_ _)); refine blk_far ?_ NB747_772.out _; (with_reducible repeat (first | refine blk_drewN ?_ _ | refine blk_drew ?_ | refine blk_alloc ?_ _)); refine blk_far ?_ NB747_772.out _; (with_reducible repeat (first | refine blk_drewN ?_ _ | refine blk_drew ?_ | refine blk_alloc ?_ _)); exact BK747.out⟩
               have n5_ : Aside0 (((w52.setCell ⟨gb772, 0, none⟩ (.int .i64 ((rd_T41 ((rd_T39 l0 a1_0).f2) x41_2).f0))).setCell ⟨gb772, 1, none⟩ (.int .i64 ((rd_T41 ((rd_T39 l0 a1_0).f2) x41_2).f1))).heap[gb748]? = some (.cells #[.int .i64 0, .int .i64 0, .int .i64 0, .slice none 0 0, .slice none 0 0, .slice none 0 0, .slice none 0 0, .int .i64 0, .int .i64 0, .bool false] 25 (0, 0))) := ⟨by (with_reducible repeat (first | refine blk_drewN ?_ _ | refine blk_drew ?_ | refine blk_alloc ?_ _)); refine blk_far ?_ NB748_772.out _; (with_reducible repeat (first | refine blk_drewN ?_ _ | refine blk_drew ?_ | refine blk_alloc ?_ _)); refine blk_far ?_ NB748_772.out _; (with_reducible repeat (first | refine blk_drewN ?_ _ | refine blk_drew ?_ | refine blk_alloc ?_ _)); exact BK748.out⟩
               have n6_ : Aside0 (((w52.setCell ⟨gb772, 0, none⟩ (.int .i64 ((rd_T41 ((rd_T39 l0 a1_0).f2) x41_2).f0))).setCell ⟨gb772, 1, none⟩ (.int .i64 ((rd_T41 ((rd_T39 l0 a1_0).f2) x41_2).f1))).heap[gb768]? = some (.cells #[.int .i64 t750, .int .i64 t751, .int .i64 t752, u769003, u769004, u769005, u769006, .int .i64 t765, .int .i64 t766, .bool t767] 25 (0, 0))) := ⟨by (with_reducible repeat (first | refine blk_drewN ?_ _ | refine blk_drew ?_ | refine blk_alloc ?_ _)); refine blk_far ?_ NB768_772.out _; (with_reducible repeat (first | refine blk_drewN ?_ _ | refine blk_drew ?_ | refine blk_alloc ?_ _)); refine blk_far ?_ NB768_772.out _; (with_reducible repeat (first | refine blk_drewN ?_ _ | refine blk_drew ?_ | refine blk_alloc ?_ _)); exact BK768.out⟩
               have n7_ : Aside0 (((w52.setCell ⟨gb772, 0, none⟩ (.int .i64 ((rd_T41 ((rd_T39 l0 a1_0).f2) x41_2).f0))).setCell ⟨gb772, 1, none⟩ (.int .i64 ((rd_T41 ((rd_T39 l0 a1_0).f2) x41_2).f1))).heap[gb772]? = some (.cells #[.int .i64 ((rd_T41 ((rd_T39 l0 a1_0).f2) x41_2).f0), .int .i64 ((rd_T41 ((rd_T39 l0 a1_0).f2) x41_2).f1)] 41 (0, 0))) := ⟨by (with_reducible repeat (first | refine blk_drewN ?_ _ | refine blk_drew ?_ | refine blk_alloc ?_ _)); refine blk_put (cs := #[.int .i64 ((rd_T41 ((rd_T39 l0 a1_0).f2) x41_2).f0), .int .i64 0]) ?_ 1 _ rfl; (with_reducible repeat (first | refine blk_drewN ?_ _ | refine blk_drew ?_ | refine blk_alloc ?_ _)); refine blk_put (cs := #[.int .i64 0, .int .i64 0]) ?_ 0 _ rfl; (with_reducible repeat (first | refine blk_drewN ?_ _ | refine blk_drew ?_ | refine blk_alloc ?_ _)); exact BK772.out⟩
               have n8_ : Aside0 (Below w.heap.size w ((w52.setCell ⟨gb772, 0, none⟩ (.int .i64 ((rd_T41 ((rd_T39 l0 a1_0).f2) x41_2).f0))).setCell ⟨gb772, 1, none⟩ (.int .i64 ((rd_T41 ((rd_T39 l0 a1_0).f2) x41_2).f1)))) := ⟨dL4_ HB GE747 GE748 GE768 GE772⟩
               (try clear HO_769003)
               (try clear HO_769004)
               (try clear HO_769005)
               (try clear HO_769006)
               (try clear BK747)
               (try clear BK748)
               (try clear BK768)
               (try clear BK772)
               (try clear HB)
               generalize ((w52.setCell ⟨gb772, 0, none⟩ (.int .i64 ((rd_T41 ((rd_T39 l0 a1_0).f2) x41_2).f0))).setCell ⟨gb772, 1, none⟩ (.int .i64 ((rd_T41 ((rd_T39 l0 a1_0).f2) x41_2).f1))) = w57 at n0_ n1_ n2_ n3_ n4_ n5_ n6_ n7_ n8_ ⊢
               have HO_769003 := n0_
               have HO_769004 := n1_
               have HO_769005 := n2_
               have HO_769006 := n3_
               have BK747 := n4_
               have BK748 := n5_
               have BK768 := n6_
               have BK772 := n7_
               have HB := n8_
               clear n0_ n1_ n2_ n3_ n4_ n5_ n6_ n7_ n8_
               replace HO_769003 := Aside0.mk (Kd.R_drew HO_769003.out)
               replace HO_769004 := Aside0.mk (Kd.R_drew HO_769004.out)
               replace HO_769005 := Aside0.mk (Kd.R_drew HO_769005.out)
               replace HO_769006 := Aside0.mk (Kd.R_drew HO_769006.out)
               replace BK747 := Aside0.mk (blk_drew BK747.out)
               replace BK748 := Aside0.mk (blk_drew BK748.out)
               replace BK768 := Aside0.mk (blk_drew BK768.out)
               replace BK772 := Aside0.mk (blk_drew BK772.out)
               replace HB := Aside0.mk (below_drew1 HB.out)
               have p773 : 0 ≤ (x41_2 : Int) := of_decide_eq_true tW_
               have q773 : x41_2 < (l1_3.length : Int) := of_decide_eq_true tW_
               obtain ⟨ad773, e773, hx773_0⟩ := Kd.at_int HR1_3.out x41_2 p773 q773
               have hw773_0 := hx773_0
               cases e773
               replace hx773_0 := bc_ HB hx773_0
               replace p773 := eq_true p773
               replace q773 := eq_true q773
               refine start_ (n := 14) (S := fun w' => w'.cell? ⟨gb772, 0, none⟩ = some (.int .i64 ((rd_T41 ((rd_T39 l0 a1_0).f2) x41_2).f0)) ∧ w'.cell? ⟨gb772, 1, none⟩ = some (.int .i64 ((rd_T41 ((rd_T39 l0 a1_0).f2) x41_2).f1)) ∧ w'.cell? ⟨gb747, 0, none⟩ = some (.int .i64 a1_0) ∧ w'.cell? ⟨gb747, 1, none⟩ = some (.int .i64 a1_1) ∧ w'.cell? ⟨gb747, 2, none⟩ = some (.int .i64 a1_2) ∧ w'.cell? ⟨gb747, 3, none⟩ = some (.slice (some ad773) l1_3.length c1_3) ∧ w'.cell? ⟨gb747, 4, none⟩ = some (.slice A1_4 l1_4.length c1_4) ∧ w'.cell? ⟨gb747, 5, none⟩ = some (.slice A1_5 l1_5.length c1_5) ∧ w'.cell? ⟨gb747, 6, none⟩ = some (.slice A1_6 l1_6.length c1_6) ∧ w'.cell? ⟨gb747, 7, none⟩ = some (.int .i64 a1_7) ∧ w'.cell? ⟨gb747, 8, none⟩ = some (.int .i64 a1_8) ∧ w'.cell? ⟨gb747, 9, none⟩ = some (.bool a1_9) ∧ w'.cell? (ad773.add (x41_2).toNat) = some (.int .i64 (rd l1_3 x41_2))) (ds := []) #[false, false, false, false, false, false, false, false, false, false, false, false, false, false] (by kernel_rfl) rfl rfl ⟨(blk_cell BK772.out 0).trans rfl, (blk_cell BK772.out 1).trans rfl, (blk_cell BK747.out 0).trans rfl, (blk_cell BK747.out 1).trans rfl, (blk_cell BK747.out 2).trans rfl, (blk_cell BK747.out 3).trans rfl, (blk_cell BK747.out 4).trans rfl, (blk_cell BK747.out 5).trans rfl, (blk_cell BK747.out 6).trans rfl, (blk_cell BK747.out 7).trans rfl, (blk_cell BK747.out 8).trans rfl, (blk_cell BK747.out 9).trans rfl, ((HB.out.cell (World.block_lt_of_cell? w _ hw773_0)).trans hw773_0)⟩ (fun hHeld => ?_); refine with_tabW hinterlandref10_Work.tab10 hinterlandref10_Work.bits10 (fun HT_ HW_ => ?_)
               generalize w57.drew = w58 at HO_769003 HO_769004 HO_769005 HO_769006 BK747 BK748 BK768 BK772 HB hx773_0 hHeld ⊢
               refine pure_ (i := 0) (N := some 46) (v := ?_) (a' := ?_) (bA 1 14) rfl rfl (any_of HT_.out (by kernel_rfl)) (fun _ _ _ h => h) (Or.inl ⟨by rfl, ?_⟩) ?_ ?_; rotate_left; (intro w'; go_simp; with_reducible rfl); rotate_left; (simp only [Act.put, sI_, s0_, sS_, i64_w, i32_w]; rfl)
               refine pure_ (i := 2) (N := some 48) (v := ?_) (a' := ?_) #[true, false, true, false, false, false, false, false, false, false, false, false, false, false] rfl rfl (any_of HT_.out (by kernel_rfl)) (fun _ _ _ h => h) (Or.inl ⟨by rfl, ?_⟩) ?_ ?_; rotate_left; (intro w'; go_simp; with_reducible rfl); rotate_left; (simp only [Act.put, sI_, s0_, sS_, i64_w, i32_w]; rfl)
               refine pure_ (i := 6) (N := some 52) (v := ?_) (a' := ?_) #[true, false, true, false, false, false, true, false, false, false, false, false, false, false] rfl rfl (any_of HT_.out (by kernel_rfl)) (fun _ _ _ h => h) (Or.inl ⟨by rfl, ?_⟩) ?_ ?_; rotate_left; (intro w'; go_simp; with_reducible rfl); rotate_left; (simp only [Act.put, sI_, s0_, sS_, i64_w, i32_w]; rfl)
               refine pure_ (i := 8) (N := some 54) (v := ?_) (a' := ?_) #[true, false, true, false, false, false, true, false, true, false, false, false, false, false] rfl rfl (any_of HT_.out (by kernel_rfl)) (fun _ _ _ h => h) (Or.inl ⟨by rfl, ?_⟩) ?_ ?_; rotate_left; (intro w'; go_simp; with_reducible rfl); rotate_left; (simp only [Act.put, sI_, s0_, sS_, i64_w, i32_w]; rfl)
               refine take_ (i := 1) (N := some 47) (v := ?_) (a' := ?_) #[true, true, true, false, false, false, true, false, true, false, false, false, false, false] rfl rfl (take_ofW HT_.out HW_.out (by kernel_rfl)) (fun _ _ _ h => h) (Or.inl ⟨by rfl, ?_⟩) hHeld ?_ ?_; rotate_left; (rintro w' ⟨s0, s1, s2, s3, s4, s5, s6, s7, s8, s9, s10, s11, s12⟩; go_simp; with_reducible rfl); rotate_left; (simp only [Act.put, sI_, s0_, sS_, i64_w, i32_w]; rfl)
               refine take_ (i := 3) (N := some 49) (v := ?_) (a' := ?_) #[true, true, true, true, false, false, true, false, true, false, false, false, false, false] rfl rfl (take_ofW HT_.out HW_.out (by kernel_rfl)) (fun _ _ _ h => h) (Or.inl ⟨by rfl, ?_⟩) hHeld ?_ ?_; rotate_left; (rintro w' ⟨s0, s1, s2, s3, s4, s5, s6, s7, s8, s9, s10, s11, s12⟩; go_simp; with_reducible rfl); rotate_left; (simp only [Act.put, sI_, s0_, sS_, i64_w, i32_w]; rfl)
               refine pure_ (i := 4) (N := some 50) (v := ?_) (a' := ?_) #[true, true, true, true, true, false, true, false, true, false, false, false, false, false] rfl rfl (any_of HT_.out (by kernel_rfl)) (fun _ _ _ h => h) (Or.inl ⟨by rfl, ?_⟩) ?_ ?_; rotate_left; (intro w'; go_simp; with_reducible rfl); rotate_left; (simp only [Act.put, sI_, s0_, sS_, i64_w, i32_w]; rfl)
               refine pure_ (i := 5) (N := some 51) (v := ?_) (a' := ?_) #[true, true, true, true, true, true, true, false, true, false, false, false, false, false] rfl rfl (any_of HT_.out (by kernel_rfl)) (fun _ _ _ h => h) (Or.inl ⟨by rfl, ?_⟩) ?_ ?_; rotate_left; (intro w'; go_simp; with_reducible rfl); rotate_left; (simp only [Act.put, sI_, s0_, sS_, i64_w, i32_w]; rfl)
               refine take_ (i := 7) (N := some 53) (v := ?_) (a' := ?_) (bA 9 14) rfl rfl (take_ofW HT_.out HW_.out (by kernel_rfl)) (fun _ _ _ h => h) (Or.inl ⟨by rfl, ?_⟩) hHeld ?_ ?_; rotate_left; (rintro w' ⟨s0, s1, s2, s3, s4, s5, s6, s7, s8, s9, s10, s11, s12⟩; go_simp; with_reducible rfl); rotate_left; (simp only [Act.put, sI_, s0_, sS_, i64_w, i32_w]; rfl)
               refine pure_ (i := 9) (N := some 55) (v := ?_) (a' := ?_) (bA 10 14) rfl rfl (any_of HT_.out (by kernel_rfl)) (fun _ _ _ h => h) (Or.inl ⟨by rfl, ?_⟩) ?_ ?_; rotate_left; (intro w'; go_simp; with_reducible rfl); rotate_left; (simp only [Act.put, sI_, s0_, sS_, i64_w, i32_w]; rfl)
               refine take_ (i := 10) (N := some 56) (v := ?_) (a' := ?_) (bA 11 14) rfl rfl (take_ofW HT_.out HW_.out (by kernel_rfl)) (fun _ _ _ h => h) (Or.inl ⟨by rfl, ?_⟩) hHeld ?_ ?_; rotate_left; (rintro w' ⟨s0, s1, s2, s3, s4, s5, s6, s7, s8, s9, s10, s11, s12⟩; go_simp; with_reducible rfl); rotate_left; (simp only [Act.put, sI_, s0_, sS_, i64_w, i32_w]; rfl)
               refine pure_ (i := 11) (N := some 57) (v := ?_) (a' := ?_) (bA 12 14) rfl rfl (any_of HT_.out (by kernel_rfl)) (fun _ _ _ h => h) (Or.inl ⟨by rfl, ?_⟩) ?_ ?_; rotate_left; (intro w'; go_simp; with_reducible rfl); rotate_left; (simp only [Act.put, sI_, s0_, sS_, i64_w, i32_w]; rfl)
               refine pure_ (i := 12) (N := some 58) (v := ?_) (a' := ?_) (bA 13 14) rfl rfl (any_of HT_.out (by kernel_rfl)) (fun _ _ _ h => h) (Or.inl ⟨by rfl, ?_⟩) ?_ ?_; rotate_left; (intro w'; go_simp; with_reducible rfl); rotate_left; (simp only [Act.put, sI_, s0_, sS_, i64_w, i32_w]; rfl)
               refine pure_ (i := 13) (N := some 10) (v := ?_) (a' := ?_) (bA 14 14) rfl rfl (any_of HT_.out (by kernel_rfl)) (fun _ _ _ h => h) (Or.inl ⟨by rfl, ?_⟩) ?_ ?_; rotate_left; (intro w'; go_simp; with_reducible rfl); rotate_left; (simp only [Act.put, sI_, s0_, sS_, i64_w, i32_w]; rfl)
               refine done_ (done_of HT_.out (by kernel_rfl)) ?_
               have hnb59 := NB768_747.out
               have hnc59 := NB747_768.out
               have hnb60 := NB768_748.out
               have hnc60 := NB748_768.out
               obtain ⟨hcz61_0, hcz61_1, hcz61_2, hcz61_3, hcz61_4, hcz61_5, hcz61_6, hcz61_7, hcz61_8, hcz61_9, hfz61_0, hfz61_1, hfz61_2, hfz61_3, hfz61_4, hfz61_5, hfz61_6, hfz61_7, hfz61_8, hfz61_9⟩ := cs10_ BK768.out
               obtain ⟨Ao62, co62, eo62⟩ := Kd.R_slice HO_769003.out
               subst eo62
               have p774 : 0 ≤ (x41_2 : Int) := of_decide_eq_true tW_
               have q774 : x41_2 < (x769003_2.length : Int) := of_decide_eq_true tW_
               obtain ⟨ad774, e774, hx774_0⟩ := Kd.at_int (Kd.R_reads' HO_769003.out).2.2 x41_2 p774 q774
               cases e774
               replace p774 := eq_true p774
               replace q774 := eq_true q774
               have p48 : 0 ≤ (x41_2 : Int) := of_decide_eq_true tW_
               have q48 : (x41_2 : Int) < ((x769003_2.length : Int) : Int) := of_decide_eq_true tW_
               obtain ⟨go48, co48, eo48, gb48, gl48, cl48, HG48⟩ := Kd.R_form HO_769003.out (by omega)
               (first | cases eo48 | (injection eo48 with ea_ en_ ec_; (first | subst ea_ | (injection ea_ with ea_; subst ea_)); subst ec_; clear en_))
               have GB48 := Aside0.mk gb48
               have GG48 := Aside0.mk HG48
               clear gb48 gl48 HG48
               (first | simp only [add_plain] at hx774_0 | skip)
               obtain ⟨hx48_0, hf48_0⟩ := Kd.R_celln 0 HO_769003.out (x41_2 : Int) p48 q48
               replace p48 := eq_true p48
               replace q48 := eq_true q48
               obtain ⟨hy63_, hz63_⟩ := Kd.R_celln 0 HO_769003.out (x41_2 : Int) (of_decide_eq_true tW_) (of_decide_eq_true tW_)
               have HP63 := Kd.R_putg HO_769003.out (x41_2 : Int) (wrap64 ((rd x769003_2 x41_2) + (ji46)))
               try go_wp2_with (first | ((with_reducible refine gate_store (t := 3) (p := 66) rfl ?_); refine store_event (t := 3) (p := 66) (v := ?vo_w64) (w1 := (w58.setCell ⟨go48, (x41_2 : Int).toNat, none⟩ (.int .i64 (wrap64 ((rd x769003_2 x41_2) + (ji46)))))) ?hg ?ho ?hn ?hr ?_; (case ho => rfl); (case hg => rfl); (case hn => rfl); (case hr => first | (go_simp; done) | (go_simp; rfl)); intro w64 hw; have hg : w58.grownBy w64 (some go48) := (by rw [hw]; exact HP63.2); have hp_ : Kd.R (Kd.int .i64) 3 w64 w.heap.size (fun k_ => some k_ ≠ (u769004 : Value).ownBlock ∧ some k_ ≠ (u769005 : Value).ownBlock ∧ some k_ ≠ (u769006 : Value).ownBlock) (.slice (some ⟨go48, 0, none⟩) x769003_2.length co62) y775 := (by rw [hw, Ny775.out]; exact HP63.1); clear HP63; replace HO_769004 := Aside0.mk (Kd.R_after (v := (.slice (some ⟨go48, 0, none⟩) x769003_2.length co62)) (v1 := (.slice (some ⟨go48, 0, none⟩) x769003_2.length co62)) (ok := (fun k_ => some k_ ≠ (u769005 : Value).ownBlock ∧ some k_ ≠ (u769006 : Value).ownBlock)) (by (with_reducible repeat (first | apply Kd.R_alloc | apply Kd.R_drewN | apply Kd.R_drew)); exact Kd.R_mono HO_769004.out (fun _ hk => ⟨⟨hk.2.1, hk.2.2⟩, hk.1⟩)) hg (.inl rfl)); replace HO_769005 := Aside0.mk (Kd.R_after (v := (.slice (some ⟨go48, 0, none⟩) x769003_2.length co62)) (v1 := (.slice (some ⟨go48, 0, none⟩) x769003_2.length co62)) (ok := (fun k_ => some k_ ≠ (u769004 : Value).ownBlock ∧ some k_ ≠ (u769006 : Value).ownBlock)) (by (with_reducible repeat (first | apply Kd.R_alloc | apply Kd.R_drewN | apply Kd.R_drew)); exact Kd.R_mono HO_769005.out (fun _ hk => ⟨⟨hk.2.1, hk.2.2⟩, hk.1⟩)) hg (.inl rfl)); replace HO_769006 := Aside0.mk (Kd.R_after (v := (.slice (some ⟨go48, 0, none⟩) x769003_2.length co62)) (v1 := (.slice (some ⟨go48, 0, none⟩) x769003_2.length co62)) (ok := (fun k_ => some k_ ≠ (u769004 : Value).ownBlock ∧ some k_ ≠ (u769005 : Value).ownBlock)) (by (with_reducible repeat (first | apply Kd.R_alloc | apply Kd.R_drewN | apply Kd.R_drew)); exact Kd.R_mono HO_769006.out (fun _ hk => ⟨⟨hk.2.1, hk.2.2⟩, hk.1⟩)) hg (.inl rfl)); replace BK747 := Aside0.mk (blk_grown (g := gb747) (o := .cells #[.int .i64 a1_0, .int .i64 a1_1, .int .i64 a1_2, .slice (some ad773) l1_3.length c1_3, .slice A1_4 l1_4.length c1_4, .slice A1_5 l1_5.length c1_5, .slice A1_6 l1_6.length c1_6, .int .i64 a1_7, .int .i64 a1_8, .bool a1_9] 25 (0, 0)) (dB_ BK747) hg (Kd.R_ne HO_769003.out BK747.out (by decide))); replace BK748 := Aside0.mk (blk_grown (g := gb748) (o := .cells #[.int .i64 0, .int .i64 0, .int .i64 0, .slice none 0 0, .slice none 0 0, .slice none 0 0, .slice none 0 0, .int .i64 0, .int .i64 0, .bool false] 25 (0, 0)) (dB_ BK748) hg (Kd.R_ne HO_769003.out BK748.out (by decide))); replace BK768 := Aside0.mk (blk_grown (g := gb768) (o := .cells #[.int .i64 t750, .int .i64 t751, .int .i64 t752, .slice (some ⟨go48, 0, none⟩) x769003_2.length co62, u769004, u769005, u769006, .int .i64 t765, .int .i64 t766, .bool t767] 25 (0, 0)) (dB_ BK768) hg (Kd.R_ne HO_769003.out BK768.out (by decide))); replace BK772 := Aside0.mk (blk_grown (g := gb772) (o := .cells #[.int .i64 ((rd_T41 ((rd_T39 l0 a1_0).f2) x41_2).f0), .int .i64 ((rd_T41 ((rd_T39 l0 a1_0).f2) x41_2).f1)] 41 (0, 0)) (dB_ BK772) hg (Kd.R_ne HO_769003.out BK772.out (by decide))); replace HO_769003 := Aside0.mk (hp_); replace HB := Aside0.mk ((by rw [hw]; exact below_set (HB.out) GB48.out : Below w.heap.size w w64)); clear hg hw hp_))
               replace HO_769003 := Aside0.mk (Kd.R_drew HO_769003.out)
               replace HO_769004 := Aside0.mk (Kd.R_drew HO_769004.out)
               replace HO_769005 := Aside0.mk (Kd.R_drew HO_769005.out)
               replace HO_769006 := Aside0.mk (Kd.R_drew HO_769006.out)
               replace BK747 := Aside0.mk (blk_drew BK747.out)
               replace BK748 := Aside0.mk (blk_drew BK748.out)
               replace BK768 := Aside0.mk (blk_drew BK768.out)
               replace BK772 := Aside0.mk (blk_drew BK772.out)
               replace HB := Aside0.mk (below_drew1 HB.out)
               obtain ⟨Ao66, co66, eo66⟩ := Kd.R_slice HO_769005.out
               (first | subst eo66 | (injection eo66 with f1_ f2_ f3_; have f4_ := f1_.symm; have f5_ := f3_.symm; clear f1_ f2_ f3_; subst f4_; subst f5_))
               have p776 : 0 ≤ (x41_2 : Int) := of_decide_eq_true tW_
               have q776 : x41_2 < (x769005_2.length : Int) := of_decide_eq_true tW_
               obtain ⟨ad776, e776, hx776_0⟩ := Kd.at_int (Kd.R_reads' HO_769005.out).2.2 x41_2 p776 q776
               cases e776
               replace p776 := eq_true p776
               replace q776 := eq_true q776
               have p51 : 0 ≤ (x41_2 : Int) := of_decide_eq_true tW_
               have q51 : (x41_2 : Int) < ((x769005_2.length : Int) : Int) := of_decide_eq_true tW_
               obtain ⟨go51, co51, eo51, gb51, gl51, cl51, HG51⟩ := Kd.R_form HO_769005.out (by omega)
               (first | cases eo51 | (injection eo51 with ea_ en_ ec_; (first | subst ea_ | (injection ea_ with ea_; subst ea_)); subst ec_; clear en_))
               have GB51 := Aside0.mk gb51
               have GG51 := Aside0.mk HG51
               clear gb51 gl51 HG51
               (first | simp only [add_plain] at hx776_0 | skip)
               obtain ⟨hx51_0, hf51_0⟩ := Kd.R_celln 0 HO_769005.out (x41_2 : Int) p51 q51
               replace p51 := eq_true p51
               replace q51 := eq_true q51
               have HP67 := Kd.R_putn HO_769005.out (x41_2 : Int) ji50
               rw [← Ny777.out] at HP67
               have HQ67 := Aside0.mk HP67
               clear HP67
               refine start_ (n := 13) (S := fun w' => w'.cell? ⟨gb768, 0, none⟩ = some (.int .i64 t750) ∧ w'.cell? ⟨gb768, 1, none⟩ = some (.int .i64 t751) ∧ w'.cell? ⟨gb768, 2, none⟩ = some (.int .i64 t752) ∧ w'.cell? ⟨gb768, 3, none⟩ = some (.slice (some ⟨go48, 0, none⟩) x769003_2.length co62) ∧ w'.cell? ⟨gb768, 4, none⟩ = some (u769004) ∧ w'.cell? ⟨gb768, 5, none⟩ = some (.slice (some ⟨go51, 0, none⟩) x769005_2.length co66) ∧ w'.cell? ⟨gb768, 6, none⟩ = some (u769006) ∧ w'.cell? ⟨gb768, 7, none⟩ = some (.int .i64 t765) ∧ w'.cell? ⟨gb768, 8, none⟩ = some (.int .i64 t766) ∧ w'.cell? ⟨gb768, 9, none⟩ = some (.bool t767) ∧ w'.cell? ⟨go51, (x41_2).toNat, none⟩ = some (.int .i64 (rd x769005_2 x41_2))) (ds := [12]) #[false, false, false, false, false, false, false, false, false, false, false, false, false] (by kernel_rfl) rfl rfl ⟨(blk_cell BK768.out 0).trans rfl, (blk_cell BK768.out 1).trans rfl, (blk_cell BK768.out 2).trans rfl, (blk_cell BK768.out 3).trans rfl, (blk_cell BK768.out 4).trans rfl, (blk_cell BK768.out 5).trans rfl, (blk_cell BK768.out 6).trans rfl, (blk_cell BK768.out 7).trans rfl, (blk_cell BK768.out 8).trans rfl, (blk_cell BK768.out 9).trans rfl, hx776_0⟩ (fun hHeld => ?_); refine with_tabW hinterlandref10_Work.tab12 hinterlandref10_Work.bits12 (fun HT_ HW_ => ?_)
               generalize w64.drew = w65 at HO_769003 HO_769004 HO_769005 HO_769006 BK747 BK748 BK768 BK772 HB GG51 HQ67 hf51_0 hx51_0 hx776_0 hHeld ⊢
               refine pure_ (i := 0) (N := some 67) (v := ?_) (a' := ?_) (bA 1 13) rfl rfl (any_of HT_.out (by kernel_rfl)) (fun _ _ _ h => h) (Or.inl ⟨by rfl, ?_⟩) ?_ ?_; rotate_left; (intro w'; go_simp; with_reducible rfl); rotate_left; (simp only [Act.put, sI_, s0_, sS_, i64_w, i32_w]; rfl)
               refine pure_ (i := 2) (N := some 69) (v := ?_) (a' := ?_) #[true, false, true, false, false, false, false, false, false, false, false, false, false] rfl rfl (any_of HT_.out (by kernel_rfl)) (fun _ _ _ h => h) (Or.inl ⟨by rfl, ?_⟩) ?_ ?_; rotate_left; (intro w'; go_simp; with_reducible rfl); rotate_left; (simp only [Act.put, sI_, s0_, sS_, i64_w, i32_w]; rfl)
               refine pure_ (i := 3) (N := some 70) (v := ?_) (a' := ?_) #[true, false, true, true, false, false, false, false, false, false, false, false, false] rfl rfl (any_of HT_.out (by kernel_rfl)) (fun _ _ _ h => h) (Or.inl ⟨by rfl, ?_⟩) ?_ ?_; rotate_left; (intro w'; go_simp; with_reducible rfl); rotate_left; (simp only [Act.put, sI_, s0_, sS_, i64_w, i32_w]; rfl)
               refine pure_ (i := 5) (N := some 72) (v := ?_) (a' := ?_) #[true, false, true, true, false, true, false, false, false, false, false, false, false] rfl rfl (any_of HT_.out (by kernel_rfl)) (fun _ _ _ h => h) (Or.inl ⟨by rfl, ?_⟩) ?_ ?_; rotate_left; (intro w'; go_simp; with_reducible rfl); rotate_left; (simp only [Act.put, sI_, s0_, sS_, i64_w, i32_w]; rfl)
               refine pure_ (i := 8) (N := some 75) (v := ?_) (a' := ?_) #[true, false, true, true, false, true, false, false, true, false, false, false, false] rfl rfl (any_of HT_.out (by kernel_rfl)) (fun _ _ _ h => h) (Or.inl ⟨by rfl, ?_⟩) ?_ ?_; rotate_left; (intro w'; go_simp; with_reducible rfl); rotate_left; (simp only [Act.put, sI_, s0_, sS_, i64_w, i32_w]; rfl)
               refine take_ (i := 1) (N := some 68) (v := ?_) (a' := ?_) #[true, true, true, true, false, true, false, false, true, false, false, false, false] rfl rfl (take_ofW HT_.out HW_.out (by kernel_rfl)) (fun _ _ _ h => h) (Or.inl ⟨by rfl, ?_⟩) hHeld ?_ ?_; rotate_left; (rintro w' ⟨s0, s1, s2, s3, s4, s5, s6, s7, s8, s9, s10⟩; go_simp; with_reducible rfl); rotate_left; (simp only [Act.put, sI_, s0_, sS_, i64_w, i32_w]; rfl)
               refine take_ (i := 4) (N := some 71) (v := ?_) (a' := ?_) #[true, true, true, true, true, true, false, false, true, false, false, false, false] rfl rfl (take_ofW HT_.out HW_.out (by kernel_rfl)) (fun _ _ _ h => h) (Or.inl ⟨by rfl, ?_⟩) hHeld ?_ ?_; rotate_left; (rintro w' ⟨s0, s1, s2, s3, s4, s5, s6, s7, s8, s9, s10⟩; go_simp; with_reducible rfl); rotate_left; (simp only [Act.put, sI_, s0_, sS_, i64_w, i32_w]; rfl)
               refine pure_ (i := 6) (N := some 73) (v := ?_) (a' := ?_) #[true, true, true, true, true, true, true, false, true, false, false, false, false] rfl rfl (any_of HT_.out (by kernel_rfl)) (fun _ _ _ h => h) (Or.inl ⟨by rfl, ?_⟩) ?_ ?_; rotate_left; (intro w'; go_simp; with_reducible rfl); rotate_left; (simp only [Act.put, sI_, s0_, sS_, i64_w, i32_w]; rfl)
               refine take_ (i := 7) (N := some 74) (v := ?_) (a' := ?_) (bA 9 13) rfl rfl (take_ofW HT_.out HW_.out (by kernel_rfl)) (fun _ _ _ h => h) (Or.inl ⟨by rfl, ?_⟩) hHeld ?_ ?_; rotate_left; (rintro w' ⟨s0, s1, s2, s3, s4, s5, s6, s7, s8, s9, s10⟩; go_simp; with_reducible rfl); rotate_left; (simp only [Act.put, sI_, s0_, sS_, i64_w, i32_w]; rfl)
               refine pure_ (i := 9) (N := some 76) (v := ?_) (a' := ?_) (bA 10 13) rfl rfl (any_of HT_.out (by kernel_rfl)) (fun _ _ _ h => h) (Or.inl ⟨by rfl, ?_⟩) ?_ ?_; rotate_left; (intro w'; go_simp; with_reducible rfl); rotate_left; (simp only [Act.put, sI_, s0_, sS_, i64_w, i32_w]; rfl)
               refine pure_ (i := 10) (N := some 77) (v := ?_) (a' := ?_) (bA 11 13) rfl rfl (any_of HT_.out (by kernel_rfl)) (fun _ _ _ h => h) (Or.inl ⟨by rfl, ?_⟩) ?_ ?_; rotate_left; (intro w'; go_simp; with_reducible rfl); rotate_left; (simp only [Act.put, sI_, s0_, sS_, i64_w, i32_w]; rfl)
               refine pure_ (i := 11) (N := some 78) (v := ?_) (a' := ?_) (bA 12 13) rfl rfl (any_of HT_.out (by kernel_rfl)) (fun _ _ _ h => h) (Or.inl ⟨by rfl, ?_⟩) ?_ ?_; rotate_left; (intro w'; go_simp; with_reducible rfl); rotate_left; (simp only [Act.put, sI_, s0_, sS_, i64_w, i32_w]; rfl)
               refine last_ (i := 12) (N := none) #[true, true, true, true, true, true, true, true, true, true, true, true, true] rfl rfl (one_of HT_.out (by kernel_rfl)) (by decide) (fun K hK => ?_)
               refine skip_ (w1 := ?_) (by rfl) rfl ?_ ?_
               rotate_left
               ·go_simp
                rfl
               refine hK.out _ _ ?_
               clear hK K
               refine done_ (done_of HT_.out (by kernel_rfl)) ?_
               try go_wp2
               go_roundg k2
               case measure => have := HJ5.out; have := HK2.out; omega
               case rel => exact ⟨(wrap64 (x41_2 + 1)), (y775), (x769004_2), (y777), (x769006_2), (.slice (some ⟨go48, 0, none⟩) x769003_2.length co62), (u769004), (.slice (some ⟨go51, 0, none⟩) x769005_2.length co66), (u769006), tS_, H', ⟨by have := HJ5.out; have := HK2.out; omega⟩, ⟨by (with_reducible repeat (first | apply Kd.R_alloc | apply Kd.R_drewN | apply Kd.R_drew)); exact Kd.R_mono (Kd.R_far (p := ⟨go51, (x41_2 : Int).toNat, none⟩) (Kd.R_mono HO_769003.out (fun k_ hk => (⟨hk, fun e_ => hk.2.1 (by rw [e_]; rfl)⟩ : _ ∧ k_ ≠ go51))) (fun _ hk => hk.2) (.int .i64 ji50)) (fun _ hk => ⟨hk.1.1, ⟨hk.1.2.1, hk.1.2.2⟩⟩)⟩, ⟨by (with_reducible repeat (first | apply Kd.R_alloc | apply Kd.R_drewN | apply Kd.R_drew)); exact Kd.R_mono (Kd.R_far (p := ⟨go51, (x41_2 : Int).toNat, none⟩) (Kd.R_mono HO_769004.out (fun k_ hk => (⟨hk, fun e_ => hk.1.1 (by rw [e_]; rfl)⟩ : _ ∧ k_ ≠ go51))) (fun _ hk => hk.2) (.int .i64 ji50)) (fun _ hk => ⟨hk.1.2, ⟨hk.1.1.1, hk.1.1.2⟩⟩)⟩, ⟨by (with_reducible repeat (first | apply Kd.R_alloc | apply Kd.R_drewN | apply Kd.R_drew)); exact Kd.R_mono HQ67.out (fun _ hk => ⟨hk.2, ⟨hk.1.1, hk.1.2⟩⟩)⟩, ⟨by (with_reducible repeat (first | apply Kd.R_alloc | apply Kd.R_drewN | apply Kd.R_drew)); exact Kd.R_mono (Kd.R_far (p := ⟨go51, (x41_2 : Int).toNat, none⟩) (Kd.R_mono HO_769006.out (fun k_ hk => (⟨hk, fun e_ => hk.1.2 (by rw [e_]; rfl)⟩ : _ ∧ k_ ≠ go51))) (fun _ hk => hk.2) (.int .i64 ji50)) (fun _ hk => ⟨hk.1.2, ⟨hk.1.1.1, hk.1.1.2⟩⟩)⟩, ⟨by (with_reducible repeat (first | refine blk_drewN ?_ _ | refine blk_drew ?_ | refine blk_alloc ?_ _)); refine blk_far ?_ (by have h_ := Kd.R_ne HO_769005.out BK747.out (by decide); intro e_; exact h_ (by rw [e_]; rfl)) _; (with_reducible repeat (first | refine blk_drewN ?_ _ | refine blk_drew ?_ | refine blk_alloc ?_ _)); exact BK747.out⟩, ⟨by (with_reducible repeat (first | refine blk_drewN ?_ _ | refine blk_drew ?_ | refine blk_alloc ?_ _)); refine blk_far ?_ (by have h_ := Kd.R_ne HO_769005.out BK748.out (by decide); intro e_; exact h_ (by rw [e_]; rfl)) _; (with_reducible repeat (first | refine blk_drewN ?_ _ | refine blk_drew ?_ | refine blk_alloc ?_ _)); exact BK748.out⟩, ⟨by (with_reducible repeat (first | refine blk_drewN ?_ _ | refine blk_drew ?_ | refine blk_alloc ?_ _)); refine blk_far ?_ (by have h_ := Kd.R_ne HO_769005.out BK768.out (by decide); intro e_; exact h_ (by rw [e_]; rfl)) _; (with_reducible repeat (first | refine blk_drewN ?_ _ | refine blk_drew ?_ | refine blk_alloc ?_ _)); exact BK768.out⟩, ⟨by repeat (first | (with_reducible first | exact HB.out | apply below_alloc | apply pw_below_drewN | apply below_drew1 | refine below_set ?_ GB51.out | refine below_set ?_ GE747.out | refine below_set ?_ GE748.out | refine below_set ?_ GE768.out | refine below_set ?_ GE772.out) | exact HB.out)⟩⟩
              ·rw [if_neg c49] at H
               exact absurd H (by simp)
             ·rw [if_neg c47] at H
              exact absurd H (by simp)
            ·rw [if_neg c45] at H
             exact absurd H (by simp)
           ·rw [if_neg c44] at H
            exact absurd H (by simp)
          ·rw [if_neg c43] at H
           exact absurd H (by simp)
         ·rw [if_neg c42] at H
          have c42b0 : decide (x41_2 < (((rd_T39 l0 a1_0).f2).length : Int)) = false := decide_eq_false c42
          clear c42
          simp only [Option.some.injEq, Prod.mk.injEq] at H
          obtain ⟨rfl, rfl, rfl, rfl, rfl, rfl, rfl, rfl, rfl, rfl, rfl⟩ := H
          have hnb68 := NB768_747.out
          have hnc68 := NB747_768.out
          have hnb69 := NB768_748.out
          have hnc69 := NB748_768.out
          obtain ⟨hcz70_0, hcz70_1, hcz70_2, hcz70_3, hcz70_4, hcz70_5, hcz70_6, hcz70_7, hcz70_8, hcz70_9, hfz70_0, hfz70_1, hfz70_2, hfz70_3, hfz70_4, hfz70_5, hfz70_6, hfz70_7, hfz70_8, hfz70_9⟩ := cs10_ BK768.out
          have hnb71 := NB748_747.out
          have hnc71 := NB747_748.out
          obtain ⟨hcz72_0, hcz72_1, hcz72_2, hcz72_3, hcz72_4, hcz72_5, hcz72_6, hcz72_7, hcz72_8, hcz72_9, hfz72_0, hfz72_1, hfz72_2, hfz72_3, hfz72_4, hfz72_5, hfz72_6, hfz72_7, hfz72_8, hfz72_9⟩ := cs10_ BK748.out
          obtain ⟨Ao73, co73, eo73⟩ := Kd.R_slice HO_769003.out
          subst eo73
          obtain ⟨Ao74, co74, eo74⟩ := Kd.R_slice HO_769004.out
          subst eo74
          obtain ⟨Ao75, co75, eo75⟩ := Kd.R_slice HO_769005.out
          subst eo75
          obtain ⟨Ao76, co76, eo76⟩ := Kd.R_slice HO_769006.out
          subst eo76
          go_wp2
          refine bodyPost_ret (results_ct rfl _ _ gb748 25 #[.int .i64 t750, .int .i64 t751, .int .i64 t752, .slice Ao73 x769003_2.length co73, .slice Ao74 x769004_2.length co74, .slice Ao75 x769005_2.length co75, .slice Ao76 x769006_2.length co76, .int .i64 t765, .int .i64 t766, .bool t767] (0, 0) _ rfl (dP10_ BK748) Try.underlying25 rfl (by kernel_rfl)) rfl ?_
          exact ⟨_, _, _, _, tE_, by (with_reducible repeat (first | apply Kd.R_alloc | apply Kd.R_drewN | apply Kd.R_drew)); exact Kd.R_mono (far10_ (Kd.R_types HO_769003.out BK748.out (by decide)) gb748 (fun _ hk => hk.2) (.int .i64 t750) (.int .i64 t751) (.int .i64 t752) (.slice Ao73 x769003_2.length co73) (.slice Ao74 x769004_2.length co74) (.slice Ao75 x769005_2.length co75) (.slice Ao76 x769006_2.length co76) (.int .i64 t765) (.int .i64 t766) (.bool t767)) (fun _ hk => ⟨hk.1.1, ⟨hk.1.2.1, hk.1.2.2⟩⟩), by (with_reducible repeat (first | apply Kd.R_alloc | apply Kd.R_drewN | apply Kd.R_drew)); exact Kd.R_mono (far10_ (Kd.R_types HO_769004.out BK748.out (by decide)) gb748 (fun _ hk => hk.2) (.int .i64 t750) (.int .i64 t751) (.int .i64 t752) (.slice Ao73 x769003_2.length co73) (.slice Ao74 x769004_2.length co74) (.slice Ao75 x769005_2.length co75) (.slice Ao76 x769006_2.length co76) (.int .i64 t765) (.int .i64 t766) (.bool t767)) (fun _ hk => ⟨hk.1.1, ⟨hk.1.2.1, hk.1.2.2⟩⟩), by (with_reducible repeat (first | apply Kd.R_alloc | apply Kd.R_drewN | apply Kd.R_drew)); exact Kd.R_mono (far10_ (Kd.R_types HO_769005.out BK748.out (by decide)) gb748 (fun _ hk => hk.2) (.int .i64 t750) (.int .i64 t751) (.int .i64 t752) (.slice Ao73 x769003_2.length co73) (.slice Ao74 x769004_2.length co74) (.slice Ao75 x769005_2.length co75) (.slice Ao76 x769006_2.length co76) (.int .i64 t765) (.int .i64 t766) (.bool t767)) (fun _ hk => ⟨hk.1.1, ⟨hk.1.2.1, hk.1.2.2⟩⟩), by (with_reducible repeat (first | apply Kd.R_alloc | apply Kd.R_drewN | apply Kd.R_drew)); exact Kd.R_mono (far10_ (Kd.R_types HO_769006.out BK748.out (by decide)) gb748 (fun _ hk => hk.2) (.int .i64 t750) (.int .i64 t751) (.int .i64 t752) (.slice Ao73 x769003_2.length co73) (.slice Ao74 x769004_2.length co74) (.slice Ao75 x769005_2.length co75) (.slice Ao76 x769006_2.length co76) (.int .i64 t765) (.int .i64 t766) (.bool t767)) (fun _ hk => ⟨hk.1.1, ⟨hk.1.2.1, hk.1.2.2⟩⟩), dL3_ HB GE747 GE748 GE768⟩
      ·rw [if_neg c38] at H
       exact absurd H (by simp)
     ·rw [if_neg c37] at H
      exact absurd H (by simp)
 ·rw [if_neg c4] at H
  have c4b0 : (t749 == 0) = false := beq_eq_false_iff_ne.mpr c4
  have c4b1 : (t749 != 0) = true := bne_iff_ne.mpr c4
  simp only [Option.some.injEq, Prod.mk.injEq] at H
  obtain ⟨rfl, rfl, rfl, rfl, rfl, rfl, rfl, rfl, rfl, rfl, rfl⟩ := H
  go_enter Try.func27, Try.ntmps27
  go_wp2_with (first | ((with_reducible refine gate_dst (N := 3) rfl ?_); (try (refine gate_guard (by rfl) ?_; dsimp only)); refine box_event ?hg (N := 3) ?hd (cs := #[.int .i64 a1_0, .int .i64 a1_1, .int .i64 a1_2, .slice A1_3 l1_3.length c1_3, .slice A1_4 l1_4.length c1_4, .slice A1_5 l1_5.length c1_5, .slice A1_6 l1_6.length c1_6, .int .i64 a1_7, .int .i64 a1_8, .bool a1_9]) (t := 25) ?hr ?_; (case hd => rfl); (case hg => rfl); (case hr => first | (go_simp; done) | (go_simp; rfl)); intro gb747 hg w77 hbox hb; have BK747 := Aside0.mk (hbox); have GW747 := Aside0.mk ((dS_ hg (dL_ HB) : w.heap.size ≤ gb747)); have GE747 := Aside0.mk ((dS_ hg (dL_ HB) : w.heap.size ≤ gb747)); replace HB := Aside0.mk (below_step (dL_ HB) hb); clear hb hbox hg) | ((with_reducible refine gate_dst (N := 4) rfl ?_); (try (refine gate_guard (by rfl) ?_; dsimp only)); refine box_event ?hg (N := 4) ?hd (cs := #[.int .i64 0, .int .i64 0, .int .i64 0, .slice none 0 0, .slice none 0 0, .slice none 0 0, .slice none 0 0, .int .i64 0, .int .i64 0, .bool false]) (t := 25) ?hr ?_; (case hd => rfl); (case hg => rfl); (case hr => first | (go_simp; done) | (go_simp; rfl)); intro gb748 hg w78 hbox hb; have BK748 := Aside0.mk (hbox); have GW748 := Aside0.mk ((dS_ hg (dL1_ HB GE747) : w.heap.size ≤ gb748)); have GE748 := Aside0.mk ((dS_ hg (dL1_ HB GE747) : w.heap.size ≤ gb748)); replace HB := Aside0.mk (below_step (dL1_ HB GE747) hb); have NB747_748 := Aside0.mk ((by rw [hg]; exact Nat.ne_of_lt (blk_lt (dB_ BK747)) : gb747 ≠ gb748)); have NB748_747 := Aside0.mk ((by rw [hg]; exact Nat.ne_of_gt (blk_lt (dB_ BK747)) : gb748 ≠ gb747)); replace BK747 := Aside0.mk (blk_below (g := gb747) (o := .cells #[.int .i64 a1_0, .int .i64 a1_1, .int .i64 a1_2, .slice A1_3 l1_3.length c1_3, .slice A1_4 l1_4.length c1_4, .slice A1_5 l1_5.length c1_5, .slice A1_6 l1_6.length c1_6, .int .i64 a1_7, .int .i64 a1_8, .bool a1_9] 25 (0, 0)) (dB_ BK747) hb); clear hb hbox hg; have hnb79 := NB747_748.out; have hnc79 := NB748_747.out; obtain ⟨hcz80_0, hcz80_1, hcz80_2, hcz80_3, hcz80_4, hcz80_5, hcz80_6, hcz80_7, hcz80_8, hcz80_9, hfz80_0, hfz80_1, hfz80_2, hfz80_3, hfz80_4, hfz80_5, hfz80_6, hfz80_7, hfz80_8, hfz80_9⟩ := cs10_ BK747.out) | ((with_reducible refine gate_callee (f := 16) rfl ?_); refine goesL_ (some 13) rfl rfl Try.func16 (by kernel_rfl) rfl #[.slice A0 l0.length c0, .agg #[.int .i64 a1_0, .int .i64 a1_1, .int .i64 a1_2, .slice A1_3 l1_3.length c1_3, .slice A1_4 l1_4.length c1_4, .slice A1_5 l1_5.length c1_5, .slice A1_6 l1_6.length c1_6, .int .i64 a1_7, .int .i64 a1_8, .bool a1_9]] rfl tA_ ?_; (with_reducible refine (hinterlandref10_Validate.calls k _ _ l0 a1_0 a1_1 a1_2 _ _ l1_3 _ _ l1_4 _ _ l1_5 _ _ l1_6 a1_7 a1_8 a1_9 t749 _ ?side1 ?side2 ?side3 ?side4 ?side5 ?side6 ?side7 ?side8 ?side9 ?side10 A3.out).mono ?_); (case side1 => exact dC_ HR0 HB); (case side2 => exact HC0.out); (case side3 => exact dC_ HR1_3 HB); (case side4 => exact HC1_3.out); (case side5 => exact dC_ HR1_4 HB); (case side6 => exact HC1_4.out); (case side7 => exact dC_ HR1_5 HB); (case side8 => exact HC1_5.out); (case side9 => exact dC_ HR1_6 HB); (case side10 => exact HC1_6.out); rintro e w81 ⟨rfl, hb⟩; refine ⟨_, rfl, ?_⟩; replace BK747 := Aside0.mk (blk_below (g := gb747) (o := .cells #[.int .i64 a1_0, .int .i64 a1_1, .int .i64 a1_2, .slice A1_3 l1_3.length c1_3, .slice A1_4 l1_4.length c1_4, .slice A1_5 l1_5.length c1_5, .slice A1_6 l1_6.length c1_6, .int .i64 a1_7, .int .i64 a1_8, .bool a1_9] 25 (0, 0)) (dB_ BK747) hb); replace BK748 := Aside0.mk (blk_below (g := gb748) (o := .cells #[.int .i64 0, .int .i64 0, .int .i64 0, .slice none 0 0, .slice none 0 0, .slice none 0 0, .slice none 0 0, .int .i64 0, .int .i64 0, .bool false] 25 (0, 0)) (dB_ BK748) hb); replace HB := Aside0.mk (below_step (dL2_ HB GE747 GE748) hb); obtain ⟨hcz82_0, hcz82_1, hcz82_2, hcz82_3, hcz82_4, hcz82_5, hcz82_6, hcz82_7, hcz82_8, hcz82_9, hfz82_0, hfz82_1, hfz82_2, hfz82_3, hfz82_4, hfz82_5, hfz82_6, hfz82_7, hfz82_8, hfz82_9⟩ := cs10_ BK748.out))
  refine bodyPost_ret (results_ct rfl _ _ gb748 25 #[.int .i64 0, .int .i64 0, .int .i64 0, .slice none 0 0, .slice none 0 0, .slice none 0 0, .slice none 0 0, .int .i64 0, .int .i64 0, .bool false] (0, 0) _ rfl (dP10_ BK748) Try.underlying25 rfl (by kernel_rfl)) rfl ?_
  exact ⟨_, _, _, _, tE_, by first | exact Kd.R_nil _ _ _ _ _ | exact Kd.N_nil _ _ _ _ _ | exact Kd.V_nil _ _ _ _ _ | exact Kd.Q_nil _ _ _ _ _ | exact Kd.S_nil _ _ _ _ _, by first | exact Kd.R_nil _ _ _ _ _ | exact Kd.N_nil _ _ _ _ _ | exact Kd.V_nil _ _ _ _ _ | exact Kd.Q_nil _ _ _ _ _ | exact Kd.S_nil _ _ _ _ _, by first | exact Kd.R_nil _ _ _ _ _ | exact Kd.N_nil _ _ _ _ _ | exact Kd.V_nil _ _ _ _ _ | exact Kd.Q_nil _ _ _ _ _ | exact Kd.S_nil _ _ _ _ _, by first | exact Kd.R_nil _ _ _ _ _ | exact Kd.N_nil _ _ _ _ _ | exact Kd.V_nil _ _ _ _ _ | exact Kd.Q_nil _ _ _ _ _ | exact Kd.S_nil _ _ _ _ _, dL2_ HB GE747 GE748⟩

end Go.Proofs.Ytnkgelnkoljgdaa.Q
