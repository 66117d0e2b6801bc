-- PRINTED by print.py (a twelfth state) out of the translation. Not trusted: Lean checks it.
import Derived.Test.YtnkgelnkoljgdaaPrs
import Derived.Test.YtnkgelnkoljgdaaQ0
import Derived.Test.YtnkgelnkoljgdaaQ7
import Derived.Test.YtnkgelnkoljgdaaQ10
namespace Go.Proofs.Ytnkgelnkoljgdaa.Q
open Go.RowKit Go.Proofs.YtnkgelnkoljgdaaPrs Go.Proofs.YtnkgelnkoljgdaaOwn Go.Proofs.YtnkgelnkoljgdaaW.PrintWords Go.Proofs.YtnkgelnkoljgdaaW.PrintLast Go.Proofs.YtnkgelnkoljgdaaW.PrintMore
open List renaming setIfInBounds_toArray → sI_, set_cons_zero → s0_, set_cons_succ → sS_
attribute [local go_sem] max2_int min2_int max_two min_two max_three min_three max_four min_four   -- for this text's walks alone
set_option linter.unusedVariables false
set_option linter.unusedSimpArgs false

/-! ### plant_Work: function 26 -/
mutual
def plant_Work.j0 : Nat → Bool → Int → Int → Int → List Int → List Int → List Int → List Int → Int → Int → Bool → Int → Int → Int → List Int → List Int → List Int → List Int → Int → Int → Bool → ByteArray → List Int → List (S41) → Option (Int × Int × Int × List Int × List Int × List Int × List Int × Int × Int × Bool × Int)
  | 0, _, _, _, _, _, _, _, _, _, _, _, _, _, _, _, _, _, _, _, _, _, _, _, _ => none
  | k + 1, x34, x717000, x717001, x717002, x717003, x717004, x717005, x717006, x717007, x717008, x717009, x738000, x738001, x738002, x738003, x738004, x738005, x738006, x738007, x738008, x738009, x740000, x740001, x740002 => if x34 = true then (some (x738000, x738001, x738002, x738003, x738004, x738005, x738006, x738007, x738008, x738009, 0)) else (plant_Work.l0 k x740002 (x740002.length : Int) 0 x717000 x717001 x717002 x717003 x717004 x717005 x717006 x717007 x717008 x717009 x738000 x738001 x738002 x738003 x738004 x738005 x738006 x738007 x738008 x738009)
def plant_Work.l0 : Nat → List (S41) → Int → Int → Int → Int → Int → List Int → List Int → List Int → List Int → Int → Int → Bool → Int → Int → Int → List Int → List Int → List Int → List Int → Int → Int → Bool → Option (Int × Int × Int × List Int × List Int × List Int × List Int × Int × Int × Bool × Int)
  | 0, _, _, _, _, _, _, _, _, _, _, _, _, _, _, _, _, _, _, _, _, _, _, _ => none
  | k + 1, x37, x38, x39, x717000, x717001, x717002, x717003, x717004, x717005, x717006, x717007, x717008, x717009, x738000, x738001, x738002, x738003, x738004, x738005, x738006, x738007, x738008, x738009 => if x39 < x38 then (if 0 ≤ x39 then (if x39 < (x37.length : Int) then (if x39 < (x738003.length : Int) then (if x39 < (x738005.length : Int) then (plant_Work.l0 k x37 x38 (wrap64 (x39 + 1)) x717000 x717001 x717002 x717003 x717004 x717005 x717006 x717007 x717008 x717009 x738000 x738001 x738002 (x738003.set (x39 : Int).toNat (wrap64 ((rd x738003 x39) + (mn (wrap64 (Int.tdiv (wrap64 (((rd_T41 x37 x39).f1) * x717002)) 16)) (wrap64 (1000000 - (rd x738003 x39))))))) x738004 (x738005.set (x39 : Int).toNat (mn (wrap64 ((rd x738005 x39) + (mn (wrap64 (Int.tdiv (wrap64 (((rd_T41 x37 x39).f1) * x717002)) 16)) (wrap64 (1000000 - (rd x738003 x39)))))) 1000000)) x738006 x738007 x738008 x738009) else (none)) else (none)) else (none)) else (none)) else (some (x738000, x738001, x738002, x738003, x738004, x738005, x738006, x738007, x738008, x738009, 0))
end
def plant_Work.f (k : Nat) (l0 : List (S39)) (a1_0 : Int) (a1_1 : Int) (a1_2 : Int) (l1_3 : List Int) (l1_4 : List Int) (l1_5 : List Int) (l1_6 : List Int) (a1_7 : Int) (a1_8 : Int) (a1_9 : Bool) : Option (Int × Int × Int × List Int × List Int × List Int × List Int × Int × Int × Bool × Int) := (plant_Validate.f k l0 a1_0 a1_1 a1_2 l1_3 l1_4 l1_5 l1_6 a1_7 a1_8 a1_9).bind fun t718 => (if t718 = 0 then ((plant_clone.f a1_0 a1_1 a1_2 l1_3 l1_4 l1_5 l1_6 a1_7 a1_8 a1_9).bind fun bt719 => (if 0 ≤ a1_0 then (if a1_0 < (l0.length : Int) then (if a1_9 = true then (plant_Work.j0 k (decide ((((rd_T39 l0 a1_0).f1).length : Int) > 0)) a1_0 a1_1 a1_2 l1_3 l1_4 l1_5 l1_6 a1_7 a1_8 a1_9 bt719.1 bt719.2.1 bt719.2.2.1 bt719.2.2.2.1 bt719.2.2.2.2.1 bt719.2.2.2.2.2.1 bt719.2.2.2.2.2.2.1 bt719.2.2.2.2.2.2.2.1 bt719.2.2.2.2.2.2.2.2.1 bt719.2.2.2.2.2.2.2.2.2 ((rd_T39 l0 a1_0).f0) ((rd_T39 l0 a1_0).f1) ((rd_T39 l0 a1_0).f2)) else (plant_Work.j0 k true a1_0 a1_1 a1_2 l1_3 l1_4 l1_5 l1_6 a1_7 a1_8 a1_9 bt719.1 bt719.2.1 bt719.2.2.1 bt719.2.2.2.1 bt719.2.2.2.2.1 bt719.2.2.2.2.2.1 bt719.2.2.2.2.2.2.1 bt719.2.2.2.2.2.2.2.1 bt719.2.2.2.2.2.2.2.2.1 bt719.2.2.2.2.2.2.2.2.2 ((rd_T39 l0 a1_0).f0) ((rd_T39 l0 a1_0).f1) ((rd_T39 l0 a1_0).f2))) else (none)) else (none))) else (some (0, 0, 0, ([] : List Int), ([] : List Int), ([] : List Int), ([] : List Int), 0, 0, false, t718)))
theorem plant_Work.mono_l : ∀ k, (∀ y0 y1 y2 y3 y4 y5 y6 y7 y8 y9 y10 y11 y12 y13 y14 y15 y16 y17 y18 y19 y20 y21 y22 y23, LeO (plant_Work.j0 k y0 y1 y2 y3 y4 y5 y6 y7 y8 y9 y10 y11 y12 y13 y14 y15 y16 y17 y18 y19 y20 y21 y22 y23) (plant_Work.j0 (k + 1) y0 y1 y2 y3 y4 y5 y6 y7 y8 y9 y10 y11 y12 y13 y14 y15 y16 y17 y18 y19 y20 y21 y22 y23)) ∧ (∀ y0 y1 y2 y3 y4 y5 y6 y7 y8 y9 y10 y11 y12 y13 y14 y15 y16 y17 y18 y19 y20 y21 y22, LeO (plant_Work.l0 k y0 y1 y2 y3 y4 y5 y6 y7 y8 y9 y10 y11 y12 y13 y14 y15 y16 y17 y18 y19 y20 y21 y22) (plant_Work.l0 (k + 1) y0 y1 y2 y3 y4 y5 y6 y7 y8 y9 y10 y11 y12 y13 y14 y15 y16 y17 y18 y19 y20 y21 y22))
  | 0 => ⟨fun _ _ _ _ _ _ _ _ _ _ _ _ _ _ _ _ _ _ _ _ _ _ _ _ r h => by simp [plant_Work.j0] at h, fun _ _ _ _ _ _ _ _ _ _ _ _ _ _ _ _ _ _ _ _ _ _ _ r h => by simp [plant_Work.l0] at h⟩
  | k + 1 => by
    obtain ⟨ih0, ih1⟩ := plant_Work.mono_l k
    refine ⟨?_, ?_⟩
    · intro y0 y1 y2 y3 y4 y5 y6 y7 y8 y9 y10 y11 y12 y13 y14 y15 y16 y17 y18 y19 y20 y21 y22 y23
      unfold plant_Work.j0
      repeat' first
      | (with_reducible first | exact ih0 _ _ _ _ _ _ _ _ _ _ _ _ _ _ _ _ _ _ _ _ _ _ _ _ | exact ih1 _ _ _ _ _ _ _ _ _ _ _ _ _ _ _ _ _ _ _ _ _ _ _ | exact plant_Validate.mono _ _ _ _ _ _ _ _ _ _ _ _ | exact LeO.refl _ | exact LeO.none _ | refine LeO.ite ?_ ?_ | refine LeO.bind ?_ (fun _ => ?_))
      | exact ih0 _ _ _ _ _ _ _ _ _ _ _ _ _ _ _ _ _ _ _ _ _ _ _ _
      | exact ih1 _ _ _ _ _ _ _ _ _ _ _ _ _ _ _ _ _ _ _ _ _ _ _
      | exact plant_Validate.mono _ _ _ _ _ _ _ _ _ _ _ _
      | exact LeO.none _
      | refine LeO.ite ?_ ?_
      | refine LeO.bind ?_ (fun _ => ?_)
    · intro y0 y1 y2 y3 y4 y5 y6 y7 y8 y9 y10 y11 y12 y13 y14 y15 y16 y17 y18 y19 y20 y21 y22
      unfold plant_Work.l0
      repeat' first
      | (with_reducible first | exact ih0 _ _ _ _ _ _ _ _ _ _ _ _ _ _ _ _ _ _ _ _ _ _ _ _ | exact ih1 _ _ _ _ _ _ _ _ _ _ _ _ _ _ _ _ _ _ _ _ _ _ _ | exact plant_Validate.mono _ _ _ _ _ _ _ _ _ _ _ _ | exact LeO.refl _ | exact LeO.none _ | refine LeO.ite ?_ ?_ | refine LeO.bind ?_ (fun _ => ?_))
      | exact ih0 _ _ _ _ _ _ _ _ _ _ _ _ _ _ _ _ _ _ _ _ _ _ _ _
      | exact ih1 _ _ _ _ _ _ _ _ _ _ _ _ _ _ _ _ _ _ _ _ _ _ _
      | exact plant_Validate.mono _ _ _ _ _ _ _ _ _ _ _ _
      | exact LeO.none _
      | refine LeO.ite ?_ ?_
      | refine LeO.bind ?_ (fun _ => ?_)
theorem plant_Work.mono : ∀ a0 a1 a2 a3 a4 a5 a6 a7 a8 a9 a10 k, LeO (plant_Work.f k a0 a1 a2 a3 a4 a5 a6 a7 a8 a9 a10) (plant_Work.f (k + 1) a0 a1 a2 a3 a4 a5 a6 a7 a8 a9 a10) := by
  intro a0 a1 a2 a3 a4 a5 a6 a7 a8 a9 a10 k
  obtain ⟨ih0, ih1⟩ := plant_Work.mono_l k
  unfold plant_Work.f
  repeat' first
      | (with_reducible first | exact ih0 _ _ _ _ _ _ _ _ _ _ _ _ _ _ _ _ _ _ _ _ _ _ _ _ | exact ih1 _ _ _ _ _ _ _ _ _ _ _ _ _ _ _ _ _ _ _ _ _ _ _ | exact plant_Validate.mono _ _ _ _ _ _ _ _ _ _ _ _ | exact LeO.refl _ | exact LeO.none _ | refine LeO.ite ?_ ?_ | refine LeO.bind ?_ (fun _ => ?_))
      | exact ih0 _ _ _ _ _ _ _ _ _ _ _ _ _ _ _ _ _ _ _ _ _ _ _ _
      | exact ih1 _ _ _ _ _ _ _ _ _ _ _ _ _ _ _ _ _ _ _ _ _ _ _
      | exact plant_Validate.mono _ _ _ _ _ _ _ _ _ _ _ _
      | exact LeO.none _
      | refine LeO.ite ?_ ?_
      | refine LeO.bind ?_ (fun _ => ?_)
def plant_Work.T11 : Bool × List (List Nat × List Nat) := (true, [([], []), ([0], [0]), ([], []), ([2], [2]), ([1, 3], [1, 3]), ([4], [4]), ([], []), ([6], [6]), ([], []), ([7, 8], [7, 8]), ([9], [9]), ([10], [10]), ([5, 11], [5, 11]), ([12, 0, 1, 2, 3, 4, 5, 6, 7, 8, 9, 10, 11, 12], [12])])
def plant_Work.B11 : List Nat := [0, 1, 0, 4, 15, 31, 0, 64, 0, 448, 960, 1984, 4095, 8191]
theorem plant_Work.tab11 : rtab .any (opsOf Try.f26 11) = plant_Work.T11 := by kernel_rfl
theorem plant_Work.bits11 : waitsOk plant_Work.T11.2 plant_Work.B11 = true := by kernel_rfl
def plant_Work.T13 : Bool × List (List Nat × List Nat) := (true, [([], []), ([0], [0]), ([], []), ([], []), ([3], [3]), ([], []), ([4, 5], [4, 5]), ([6], [6]), ([], []), ([7, 8], [7, 8]), ([9], [9]), ([1, 2, 0, 1, 2, 3, 4, 5, 6, 7, 8, 9, 10], [1, 2]), ([11, 10, 0, 1, 2, 3, 4, 5, 6, 7, 8, 9, 10], [10, 11])])
def plant_Work.B13 : List Nat := [0, 1, 0, 0, 8, 0, 56, 120, 0, 504, 1016, 2047, 4095]
theorem plant_Work.tab13 : rtab .any (opsOf Try.f26 13) = plant_Work.T13 := by kernel_rfl
theorem plant_Work.bits13 : waitsOk plant_Work.T13.2 plant_Work.B13 = true := by kernel_rfl
set_option maxHeartbeats 8000000 in
set_option maxRecDepth 100000 in
theorem plant_Work.calls (k : Nat) (A0 : Option Addr) (c0 : Nat) (l0 : List (S39)) (a1_0 : Int) (a1_1 : Int) (a1_2 : Int) (A1_3 : Option Addr) (c1_3 : Nat) (l1_3 : List Int) (A1_4 : Option Addr) (c1_4 : Nat) (l1_4 : List Int) (A1_5 : Option Addr) (c1_5 : Nat) (l1_5 : List Int) (A1_6 : Option Addr) (c1_6 : Nat) (l1_6 : List Int) (a1_7 : Int) (a1_8 : Int) (a1_9 : Bool) (r1 : Int) (r2 : Int) (r3 : Int) (r4 : List Int) (r5 : List Int) (r6 : List Int) (r7 : List Int) (r8 : Int) (r9 : Int) (r10 : Bool) (r11 : Int) (w : World) (hr0 : Kd.C k39 w A0 l0.length l0) (hc0 : l0.length ≤ c0) (hr1_3 : Kd.C (Kd.int .i64) w A1_3 l1_3.length l1_3) (hc1_3 : l1_3.length ≤ c1_3) (hr1_4 : Kd.C (Kd.int .i64) w A1_4 l1_4.length l1_4) (hc1_4 : l1_4.length ≤ c1_4) (hr1_5 : Kd.C (Kd.int .i64) w A1_5 l1_5.length l1_5) (hc1_5 : l1_5.length ≤ c1_5) (hr1_6 : Kd.C (Kd.int .i64) w A1_6 l1_6.length l1_6) (hc1_6 : l1_6.length ≤ c1_6) (h : plant_Work.f k l0 a1_0 a1_1 a1_2 l1_3 l1_4 l1_5 l1_6 a1_7 a1_8 a1_9 = some (r1, r2, r3, r4, r5, r6, r7, r8, r9, r10, r11)) :
    Calls Try.prog 26 #[.slice A0 l0.length c0, .agg #[.int .i64 a1_0, .int .i64 a1_1, .int .i64 a1_2, .slice A1_3 l1_3.length c1_3, .slice A1_4 l1_4.length c1_4, .slice A1_5 l1_5.length c1_5, .slice A1_6 l1_6.length c1_6, .int .i64 a1_7, .int .i64 a1_8, .bool a1_9]] w fun e w' => ∃ v3_ v4_ v5_ v6_ : Value, e = .returned (.tuple #[.agg #[.int .i64 r1, .int .i64 r2, .int .i64 r3, v3_, v4_, v5_, v6_, .int .i64 r8, .int .i64 r9, .bool r10], .int .i64 r11]) ∧ Kd.R (Kd.int .i64) 3 w' w.heap.size (fun k_ => some k_ ≠ (v4_ : Value).ownBlock ∧ some k_ ≠ (v5_ : Value).ownBlock ∧ some k_ ≠ (v6_ : Value).ownBlock) v3_ r4 ∧ Kd.R (Kd.int .i64) 3 w' w.heap.size (fun k_ => some k_ ≠ (v3_ : Value).ownBlock ∧ some k_ ≠ (v5_ : Value).ownBlock ∧ some k_ ≠ (v6_ : Value).ownBlock) v4_ r5 ∧ Kd.R (Kd.int .i64) 3 w' w.heap.size (fun k_ => some k_ ≠ (v3_ : Value).ownBlock ∧ some k_ ≠ (v4_ : Value).ownBlock ∧ some k_ ≠ (v6_ : Value).ownBlock) v5_ r6 ∧ Kd.R (Kd.int .i64) 3 w' w.heap.size (fun k_ => some k_ ≠ (v3_ : Value).ownBlock ∧ some k_ ≠ (v4_ : Value).ownBlock ∧ some k_ ≠ (v5_ : Value).ownBlock) v6_ r7 ∧ Below w.heap.size w w' := by
 have hu25 := Try.underlying25
 have hu39 := Try.underlying39
 have hu41 := Try.underlying41
 have HR0 := Aside0.mk hr0
 have HC0 := Aside0.mk hc0
 clear hr0 hc0
 have HR1_3 := Aside0.mk hr1_3
 have HC1_3 := Aside0.mk hc1_3
 clear hr1_3 hc1_3
 have HR1_4 := Aside0.mk hr1_4
 have HC1_4 := Aside0.mk hc1_4
 clear hr1_4 hc1_4
 have HR1_5 := Aside0.mk hr1_5
 have HC1_5 := Aside0.mk hc1_5
 clear hr1_5 hc1_5
 have HR1_6 := Aside0.mk hr1_6
 have HC1_6 := Aside0.mk hc1_6
 clear hr1_6 hc1_6
 have HB := Aside0.mk (Below.refl w.heap.size w)
 have H : ((plant_Validate.f k l0 a1_0 a1_1 a1_2 l1_3 l1_4 l1_5 l1_6 a1_7 a1_8 a1_9).bind fun t718 => (if t718 = 0 then ((plant_clone.f a1_0 a1_1 a1_2 l1_3 l1_4 l1_5 l1_6 a1_7 a1_8 a1_9).bind fun bt719 => (if 0 ≤ a1_0 then (if a1_0 < (l0.length : Int) then (if a1_9 = true then (plant_Work.j0 k (decide ((((rd_T39 l0 a1_0).f1).length : Int) > 0)) a1_0 a1_1 a1_2 l1_3 l1_4 l1_5 l1_6 a1_7 a1_8 a1_9 bt719.1 bt719.2.1 bt719.2.2.1 bt719.2.2.2.1 bt719.2.2.2.2.1 bt719.2.2.2.2.2.1 bt719.2.2.2.2.2.2.1 bt719.2.2.2.2.2.2.2.1 bt719.2.2.2.2.2.2.2.2.1 bt719.2.2.2.2.2.2.2.2.2 ((rd_T39 l0 a1_0).f0) ((rd_T39 l0 a1_0).f1) ((rd_T39 l0 a1_0).f2)) else (plant_Work.j0 k true a1_0 a1_1 a1_2 l1_3 l1_4 l1_5 l1_6 a1_7 a1_8 a1_9 bt719.1 bt719.2.1 bt719.2.2.1 bt719.2.2.2.1 bt719.2.2.2.2.1 bt719.2.2.2.2.2.1 bt719.2.2.2.2.2.2.1 bt719.2.2.2.2.2.2.2.1 bt719.2.2.2.2.2.2.2.2.1 bt719.2.2.2.2.2.2.2.2.2 ((rd_T39 l0 a1_0).f0) ((rd_T39 l0 a1_0).f1) ((rd_T39 l0 a1_0).f2))) else (none)) else (none))) else (some (0, 0, 0, ([] : List Int), ([] : List Int), ([] : List Int), ([] : List Int), 0, 0, false, t718)))) = some (r1, r2, r3, r4, r5, r6, r7, r8, r9, r10, r11) := h
 clear h
 replace H := Option.bind_eq_some_iff.mp H
 obtain ⟨t718, A30, H⟩ := H
 replace H : (if t718 = 0 then ((plant_clone.f a1_0 a1_1 a1_2 l1_3 l1_4 l1_5 l1_6 a1_7 a1_8 a1_9).bind fun bt719 => (if 0 ≤ a1_0 then (if a1_0 < (l0.length : Int) then (if a1_9 = true then (plant_Work.j0 k (decide ((((rd_T39 l0 a1_0).f1).length : Int) > 0)) a1_0 a1_1 a1_2 l1_3 l1_4 l1_5 l1_6 a1_7 a1_8 a1_9 bt719.1 bt719.2.1 bt719.2.2.1 bt719.2.2.2.1 bt719.2.2.2.2.1 bt719.2.2.2.2.2.1 bt719.2.2.2.2.2.2.1 bt719.2.2.2.2.2.2.2.1 bt719.2.2.2.2.2.2.2.2.1 bt719.2.2.2.2.2.2.2.2.2 ((rd_T39 l0 a1_0).f0) ((rd_T39 l0 a1_0).f1) ((rd_T39 l0 a1_0).f2)) else (plant_Work.j0 k true a1_0 a1_1 a1_2 l1_3 l1_4 l1_5 l1_6 a1_7 a1_8 a1_9 bt719.1 bt719.2.1 bt719.2.2.1 bt719.2.2.2.1 bt719.2.2.2.2.1 bt719.2.2.2.2.2.1 bt719.2.2.2.2.2.2.1 bt719.2.2.2.2.2.2.2.1 bt719.2.2.2.2.2.2.2.2.1 bt719.2.2.2.2.2.2.2.2.2 ((rd_T39 l0 a1_0).f0) ((rd_T39 l0 a1_0).f1) ((rd_T39 l0 a1_0).f2))) else (none)) else (none))) else (some (0, 0, 0, ([] : List Int), ([] : List Int), ([] : List Int), ([] : List Int), 0, 0, false, t718))) = some (r1, r2, r3, r4, r5, r6, r7, r8, r9, r10, r11) := H
 have A3 := Aside0.mk A30
 clear A30
 by_cases c4 : t718 = 0
 ·rw [if_pos c4] at H
  have c4b0 : (t718 == 0) = true := beq_iff_eq.mpr c4
  have c4b1 : (t718 != 0) = false := bne_eq_false_iff_eq.mpr c4
  clear c4
  replace H := Option.bind_eq_some_iff.mp H
  obtain ⟨⟨t719, t720, t721, t722, t725, t728, t731, t734, t735, t736⟩, A50, H⟩ := H
  replace H : (if 0 ≤ a1_0 then (if a1_0 < (l0.length : Int) then (if a1_9 = true then (plant_Work.j0 k (decide ((((rd_T39 l0 a1_0).f1).length : Int) > 0)) a1_0 a1_1 a1_2 l1_3 l1_4 l1_5 l1_6 a1_7 a1_8 a1_9 t719 t720 t721 t722 t725 t728 t731 t734 t735 t736 ((rd_T39 l0 a1_0).f0) ((rd_T39 l0 a1_0).f1) ((rd_T39 l0 a1_0).f2)) else (plant_Work.j0 k true a1_0 a1_1 a1_2 l1_3 l1_4 l1_5 l1_6 a1_7 a1_8 a1_9 t719 t720 t721 t722 t725 t728 t731 t734 t735 t736 ((rd_T39 l0 a1_0).f0) ((rd_T39 l0 a1_0).f1) ((rd_T39 l0 a1_0).f2))) else (none)) else (none)) = some (r1, r2, r3, r4, r5, r6, r7, r8, r9, r10, r11) := H
  have A5 := Aside0.mk A50
  clear A50
  by_cases c6 : 0 ≤ a1_0
  ·rw [if_pos c6] at H
   have c6b0 : decide (0 ≤ a1_0) = true := decide_eq_true c6
   clear c6
   by_cases c7 : a1_0 < (l0.length : Int)
   ·rw [if_pos c7] at H
    have c7b0 : decide (a1_0 < (l0.length : Int)) = true := decide_eq_true c7
    clear c7
    have HC8 := Aside0.mk H
    clear H
    go_enter Try.func26, Try.ntmps26
    go_upto_region 6 with (first | ((with_reducible refine gate_dst (N := 3) rfl ?_); (try (refine gate_guard (by rfl) ?_; dsimp only)); refine box_event ?hg (N := 3) ?hd (cs := #[.int .i64 a1_0, .int .i64 a1_1, .int .i64 a1_2, .slice A1_3 l1_3.length c1_3, .slice A1_4 l1_4.length c1_4, .slice A1_5 l1_5.length c1_5, .slice A1_6 l1_6.length c1_6, .int .i64 a1_7, .int .i64 a1_8, .bool a1_9]) (t := 25) ?hr ?_; (case hd => rfl); (case hg => rfl); (case hr => first | (go_simp; done) | (go_simp; rfl)); intro gb716 hg w9 hbox hb; have BK716 := Aside0.mk (hbox); have GW716 := Aside0.mk ((dS_ hg (dL_ HB) : w.heap.size ≤ gb716)); have GE716 := Aside0.mk ((dS_ hg (dL_ HB) : w.heap.size ≤ gb716)); replace HB := Aside0.mk (below_step (dL_ HB) hb); clear hb hbox hg) | ((with_reducible refine gate_dst (N := 4) rfl ?_); (try (refine gate_guard (by rfl) ?_; dsimp only)); refine box_event ?hg (N := 4) ?hd (cs := #[.int .i64 0, .int .i64 0, .int .i64 0, .slice none 0 0, .slice none 0 0, .slice none 0 0, .slice none 0 0, .int .i64 0, .int .i64 0, .bool false]) (t := 25) ?hr ?_; (case hd => rfl); (case hg => rfl); (case hr => first | (go_simp; done) | (go_simp; rfl)); intro gb717 hg w10 hbox hb; have BK717 := Aside0.mk (hbox); have GW717 := Aside0.mk ((dS_ hg (dL1_ HB GE716) : w.heap.size ≤ gb717)); have GE717 := Aside0.mk ((dS_ hg (dL1_ HB GE716) : w.heap.size ≤ gb717)); replace HB := Aside0.mk (below_step (dL1_ HB GE716) hb); have NB716_717 := Aside0.mk ((by rw [hg]; exact Nat.ne_of_lt (blk_lt (dB_ BK716)) : gb716 ≠ gb717)); have NB717_716 := Aside0.mk ((by rw [hg]; exact Nat.ne_of_gt (blk_lt (dB_ BK716)) : gb717 ≠ gb716)); replace BK716 := Aside0.mk (blk_below (g := gb716) (o := .cells #[.int .i64 a1_0, .int .i64 a1_1, .int .i64 a1_2, .slice A1_3 l1_3.length c1_3, .slice A1_4 l1_4.length c1_4, .slice A1_5 l1_5.length c1_5, .slice A1_6 l1_6.length c1_6, .int .i64 a1_7, .int .i64 a1_8, .bool a1_9] 25 (0, 0)) (dB_ BK716) hb); clear hb hbox hg; have hnb11 := NB716_717.out; have hnc11 := NB717_716.out; obtain ⟨hcz12_0, hcz12_1, hcz12_2, hcz12_3, hcz12_4, hcz12_5, hcz12_6, hcz12_7, hcz12_8, hcz12_9, hfz12_0, hfz12_1, hfz12_2, hfz12_3, hfz12_4, hfz12_5, hfz12_6, hfz12_7, hfz12_8, hfz12_9⟩ := cs10_ BK716.out) | ((with_reducible refine gate_callee (f := 15) rfl ?_); refine goesL_ (some 14) rfl rfl Try.func15 (by kernel_rfl) rfl #[.slice A0 l0.length c0, .agg #[.int .i64 a1_0, .int .i64 a1_1, .int .i64 a1_2, .slice A1_3 l1_3.length c1_3, .slice A1_4 l1_4.length c1_4, .slice A1_5 l1_5.length c1_5, .slice A1_6 l1_6.length c1_6, .int .i64 a1_7, .int .i64 a1_8, .bool a1_9]] rfl tA_ ?_; (with_reducible refine (plant_Validate.calls k _ _ l0 a1_0 a1_1 a1_2 _ _ l1_3 _ _ l1_4 _ _ l1_5 _ _ l1_6 a1_7 a1_8 a1_9 t718 _ ?side1 ?side2 ?side3 ?side4 ?side5 ?side6 ?side7 ?side8 ?side9 ?side10 A3.out).mono ?_); (case side1 => exact dC_ HR0 HB); (case side2 => exact HC0.out); (case side3 => exact dC_ HR1_3 HB); (case side4 => exact HC1_3.out); (case side5 => exact dC_ HR1_4 HB); (case side6 => exact HC1_4.out); (case side7 => exact dC_ HR1_5 HB); (case side8 => exact HC1_5.out); (case side9 => exact dC_ HR1_6 HB); (case side10 => exact HC1_6.out); rintro e w13 ⟨rfl, hb⟩; refine ⟨_, rfl, ?_⟩; replace BK716 := Aside0.mk (blk_below (g := gb716) (o := .cells #[.int .i64 a1_0, .int .i64 a1_1, .int .i64 a1_2, .slice A1_3 l1_3.length c1_3, .slice A1_4 l1_4.length c1_4, .slice A1_5 l1_5.length c1_5, .slice A1_6 l1_6.length c1_6, .int .i64 a1_7, .int .i64 a1_8, .bool a1_9] 25 (0, 0)) (dB_ BK716) hb); replace BK717 := Aside0.mk (blk_below (g := gb717) (o := .cells #[.int .i64 0, .int .i64 0, .int .i64 0, .slice none 0 0, .slice none 0 0, .slice none 0 0, .slice none 0 0, .int .i64 0, .int .i64 0, .bool false] 25 (0, 0)) (dB_ BK717) hb); replace HB := Aside0.mk (below_step (dL2_ HB GE716 GE717) hb); obtain ⟨hcz14_0, hcz14_1, hcz14_2, hcz14_3, hcz14_4, hcz14_5, hcz14_6, hcz14_7, hcz14_8, hcz14_9, hfz14_0, hfz14_1, hfz14_2, hfz14_3, hfz14_4, hfz14_5, hfz14_6, hfz14_7, hfz14_8, hfz14_9⟩ := cs10_ BK716.out) | ((with_reducible refine gate_callee (f := 39) rfl ?_); refine goesL_ (some 20) rfl rfl Try.func39 (by kernel_rfl) rfl #[.agg #[.int .i64 a1_0, .int .i64 a1_1, .int .i64 a1_2, .slice A1_3 l1_3.length c1_3, .slice A1_4 l1_4.length c1_4, .slice A1_5 l1_5.length c1_5, .slice A1_6 l1_6.length c1_6, .int .i64 a1_7, .int .i64 a1_8, .bool a1_9]] rfl tA_ ?_; (with_reducible refine (plant_clone.calls a1_0 a1_1 a1_2 _ _ l1_3 _ _ l1_4 _ _ l1_5 _ _ l1_6 a1_7 a1_8 a1_9 t719 t720 t721 t722 t725 t728 t731 t734 t735 t736 _ ?side1 ?side2 ?side3 ?side4 ?side5 ?side6 ?side7 ?side8 A5.out).mono ?_); (case side1 => exact dC_ HR1_3 HB); (case side2 => exact HC1_3.out); (case side3 => exact dC_ HR1_4 HB); (case side4 => exact HC1_4.out); (case side5 => exact dC_ HR1_5 HB); (case side6 => exact HC1_5.out); (case side7 => exact dC_ HR1_6 HB); (case side8 => exact HC1_6.out); rintro e w15 ⟨v723, v726, v729, v732, rfl, ho0, ho1, ho2, ho3, hb⟩; refine ⟨_, rfl, ?_⟩; have HO724 := Aside0.mk (Kd.R_lower ho0 (below_size (dL2_ HB GE716 GE717))); have HO727 := Aside0.mk (Kd.R_lower ho1 (below_size (dL2_ HB GE716 GE717))); have HO730 := Aside0.mk (Kd.R_lower ho2 (below_size (dL2_ HB GE716 GE717))); have HO733 := Aside0.mk (Kd.R_lower ho3 (below_size (dL2_ HB GE716 GE717))); replace BK716 := Aside0.mk (blk_below (g := gb716) (o := .cells #[.int .i64 a1_0, .int .i64 a1_1, .int .i64 a1_2, .slice A1_3 l1_3.length c1_3, .slice A1_4 l1_4.length c1_4, .slice A1_5 l1_5.length c1_5, .slice A1_6 l1_6.length c1_6, .int .i64 a1_7, .int .i64 a1_8, .bool a1_9] 25 (0, 0)) (dB_ BK716) hb); replace BK717 := Aside0.mk (blk_below (g := gb717) (o := .cells #[.int .i64 0, .int .i64 0, .int .i64 0, .slice none 0 0, .slice none 0 0, .slice none 0 0, .slice none 0 0, .int .i64 0, .int .i64 0, .bool false] 25 (0, 0)) (dB_ BK717) hb); replace HB := Aside0.mk (below_step (dL2_ HB GE716 GE717) hb)) | ((with_reducible refine gate_dst (N := 7) rfl ?_); (try (refine gate_guard (by rfl) ?_; dsimp only)); refine box_event ?hg (N := 7) ?hd (cs := #[.int .i64 0, .int .i64 0, .int .i64 0, .slice none 0 0, .slice none 0 0, .slice none 0 0, .slice none 0 0, .int .i64 0, .int .i64 0, .bool false]) (t := 25) ?hr ?_; (case hd => rfl); (case hg => rfl); (case hr => first | (go_simp; done) | (go_simp; rfl)); intro gb737 hg w16 hbox hb; replace HO724 := Aside0.mk (Kd.R_below (dR_ HO724) hb); replace HO727 := Aside0.mk (Kd.R_below (dR_ HO727) hb); replace HO730 := Aside0.mk (Kd.R_below (dR_ HO730) hb); replace HO733 := Aside0.mk (Kd.R_below (dR_ HO733) hb); have BK737 := Aside0.mk (hbox); have GW737 := Aside0.mk ((dS_ hg (dL2_ HB GE716 GE717) : w.heap.size ≤ gb737)); have GE737 := Aside0.mk ((dS_ hg (dL2_ HB GE716 GE717) : w.heap.size ≤ gb737)); replace HB := Aside0.mk (below_step (dL2_ HB GE716 GE717) hb); have NB716_737 := Aside0.mk ((by rw [hg]; exact Nat.ne_of_lt (blk_lt (dB_ BK716)) : gb716 ≠ gb737)); have NB737_716 := Aside0.mk ((by rw [hg]; exact Nat.ne_of_gt (blk_lt (dB_ BK716)) : gb737 ≠ gb716)); replace BK716 := Aside0.mk (blk_below (g := gb716) (o := .cells #[.int .i64 a1_0, .int .i64 a1_1, .int .i64 a1_2, .slice A1_3 l1_3.length c1_3, .slice A1_4 l1_4.length c1_4, .slice A1_5 l1_5.length c1_5, .slice A1_6 l1_6.length c1_6, .int .i64 a1_7, .int .i64 a1_8, .bool a1_9] 25 (0, 0)) (dB_ BK716) hb); have NB717_737 := Aside0.mk ((by rw [hg]; exact Nat.ne_of_lt (blk_lt (dB_ BK717)) : gb717 ≠ gb737)); have NB737_717 := Aside0.mk ((by rw [hg]; exact Nat.ne_of_gt (blk_lt (dB_ BK717)) : gb737 ≠ gb717)); replace BK717 := Aside0.mk (blk_below (g := gb717) (o := .cells #[.int .i64 0, .int .i64 0, .int .i64 0, .slice none 0 0, .slice none 0 0, .slice none 0 0, .slice none 0 0, .int .i64 0, .int .i64 0, .bool false] 25 (0, 0)) (dB_ BK717) hb); clear hb hbox hg; have hnb17 := NB737_716.out; have hnc17 := NB716_737.out; have hnb18 := NB737_717.out; have hnc18 := NB717_737.out; obtain ⟨hcz19_0, hcz19_1, hcz19_2, hcz19_3, hcz19_4, hcz19_5, hcz19_6, hcz19_7, hcz19_8, hcz19_9, hfz19_0, hfz19_1, hfz19_2, hfz19_3, hfz19_4, hfz19_5, hfz19_6, hfz19_7, hfz19_8, hfz19_9⟩ := cs10_ BK737.out; obtain ⟨Ao20, co20, eo20⟩ := Kd.R_slice HO724.out; subst eo20; obtain ⟨Ao21, co21, eo21⟩ := Kd.R_slice HO727.out; subst eo21; obtain ⟨Ao22, co22, eo22⟩ := Kd.R_slice HO730.out; subst eo22; obtain ⟨Ao23, co23, eo23⟩ := Kd.R_slice HO733.out; subst eo23; obtain ⟨hcz24_0, hcz24_1, hcz24_2, hcz24_3, hcz24_4, hcz24_5, hcz24_6, hcz24_7, hcz24_8, hcz24_9, hfz24_0, hfz24_1, hfz24_2, hfz24_3, hfz24_4, hfz24_5, hfz24_6, hfz24_7, hfz24_8, hfz24_9⟩ := cs10_ BK716.out; have p738 : 0 ≤ (a1_0 : Int) := of_decide_eq_true tW_; have q738 : a1_0 < (l0.length : Int) := of_decide_eq_true tW_; obtain ⟨ad738, A738_1, c738_1, A738_2, c738_2, e738, hx738_0, hx738_1, hx738_2, hl738_1, hi738_1, hl738_2, hi738_2⟩ := at_T39 HR0.out a1_0 p738 q738; cases e738; have hn738_0 : ad738.block ≠ gb737 := Nat.ne_of_lt (Nat.lt_of_lt_of_le (by have := World.block_lt_of_cell? _ _ hx738_0; first | rwa [add_block] at this | exact this) GW737.out); have hn738_1 : ad738.block ≠ gb737 := Nat.ne_of_lt (Nat.lt_of_lt_of_le (by have := World.block_lt_of_cell? _ _ hx738_0; first | rwa [add_block] at this | exact this) GW737.out); have hn738_2 : ad738.block ≠ gb737 := Nat.ne_of_lt (Nat.lt_of_lt_of_le (by have := World.block_lt_of_cell? _ _ hx738_0; first | rwa [add_block] at this | exact this) GW737.out); have hn738_3 : ad738.block ≠ gb737 := Nat.ne_of_lt (Nat.lt_of_lt_of_le (by have := World.block_lt_of_cell? _ _ hx738_0; first | rwa [add_block] at this | exact this) GW737.out); have hn738_4 : ad738.block ≠ gb737 := Nat.ne_of_lt (Nat.lt_of_lt_of_le (by have := World.block_lt_of_cell? _ _ hx738_0; first | rwa [add_block] at this | exact this) GW737.out); have hn738_5 : ad738.block ≠ gb737 := Nat.ne_of_lt (Nat.lt_of_lt_of_le (by have := World.block_lt_of_cell? _ _ hx738_0; first | rwa [add_block] at this | exact this) GW737.out); have hn738_6 : ad738.block ≠ gb737 := Nat.ne_of_lt (Nat.lt_of_lt_of_le (by have := World.block_lt_of_cell? _ _ hx738_0; first | rwa [add_block] at this | exact this) GW737.out); have hn738_7 : ad738.block ≠ gb737 := Nat.ne_of_lt (Nat.lt_of_lt_of_le (by have := World.block_lt_of_cell? _ _ hx738_0; first | rwa [add_block] at this | exact this) GW737.out); have hn738_8 : ad738.block ≠ gb737 := Nat.ne_of_lt (Nat.lt_of_lt_of_le (by have := World.block_lt_of_cell? _ _ hx738_0; first | rwa [add_block] at this | exact this) GW737.out); have hn738_9 : ad738.block ≠ gb737 := Nat.ne_of_lt (Nat.lt_of_lt_of_le (by have := World.block_lt_of_cell? _ _ hx738_0; first | rwa [add_block] at this | exact this) GW737.out); replace hx738_0 := bc_ HB hx738_0; replace hx738_1 := bc_ HB hx738_1; replace hx738_2 := bc_ HB hx738_2; have HR738_1 := Aside0.mk hi738_1; have HC738_1 := Aside0.mk hl738_1; clear hi738_1 hl738_1; have HR738_2 := Aside0.mk hi738_2; have HC738_2 := Aside0.mk hl738_2; clear hi738_2 hl738_2; replace hx738_0 := (cell_far (p := ⟨gb737, 0, none⟩) (aB_ hn738_0) (.int .i64 t719)).trans hx738_0; replace hx738_1 := (cell_far (p := ⟨gb737, 0, none⟩) (aB_ hn738_0) (.int .i64 t719)).trans hx738_1; replace hx738_2 := (cell_far (p := ⟨gb737, 0, none⟩) (aB_ hn738_0) (.int .i64 t719)).trans hx738_2; replace hx738_0 := (cell_far (p := ⟨gb737, 1, none⟩) (aB_ hn738_1) (.int .i64 t720)).trans hx738_0; replace hx738_1 := (cell_far (p := ⟨gb737, 1, none⟩) (aB_ hn738_1) (.int .i64 t720)).trans hx738_1; replace hx738_2 := (cell_far (p := ⟨gb737, 1, none⟩) (aB_ hn738_1) (.int .i64 t720)).trans hx738_2; replace hx738_0 := (cell_far (p := ⟨gb737, 2, none⟩) (aB_ hn738_2) (.int .i64 t721)).trans hx738_0; replace hx738_1 := (cell_far (p := ⟨gb737, 2, none⟩) (aB_ hn738_2) (.int .i64 t721)).trans hx738_1; replace hx738_2 := (cell_far (p := ⟨gb737, 2, none⟩) (aB_ hn738_2) (.int .i64 t721)).trans hx738_2; replace hx738_0 := (cell_far (p := ⟨gb737, 3, none⟩) (aB_ hn738_3) (.slice Ao20 t722.length co20)).trans hx738_0; replace hx738_1 := (cell_far (p := ⟨gb737, 3, none⟩) (aB_ hn738_3) (.slice Ao20 t722.length co20)).trans hx738_1; replace hx738_2 := (cell_far (p := ⟨gb737, 3, none⟩) (aB_ hn738_3) (.slice Ao20 t722.length co20)).trans hx738_2; replace hx738_0 := (cell_far (p := ⟨gb737, 4, none⟩) (aB_ hn738_4) (.slice Ao21 t725.length co21)).trans hx738_0; replace hx738_1 := (cell_far (p := ⟨gb737, 4, none⟩) (aB_ hn738_4) (.slice Ao21 t725.length co21)).trans hx738_1; replace hx738_2 := (cell_far (p := ⟨gb737, 4, none⟩) (aB_ hn738_4) (.slice Ao21 t725.length co21)).trans hx738_2; replace hx738_0 := (cell_far (p := ⟨gb737, 5, none⟩) (aB_ hn738_5) (.slice Ao22 t728.length co22)).trans hx738_0; replace hx738_1 := (cell_far (p := ⟨gb737, 5, none⟩) (aB_ hn738_5) (.slice Ao22 t728.length co22)).trans hx738_1; replace hx738_2 := (cell_far (p := ⟨gb737, 5, none⟩) (aB_ hn738_5) (.slice Ao22 t728.length co22)).trans hx738_2; replace hx738_0 := (cell_far (p := ⟨gb737, 6, none⟩) (aB_ hn738_6) (.slice Ao23 t731.length co23)).trans hx738_0; replace hx738_1 := (cell_far (p := ⟨gb737, 6, none⟩) (aB_ hn738_6) (.slice Ao23 t731.length co23)).trans hx738_1; replace hx738_2 := (cell_far (p := ⟨gb737, 6, none⟩) (aB_ hn738_6) (.slice Ao23 t731.length co23)).trans hx738_2; replace hx738_0 := (cell_far (p := ⟨gb737, 7, none⟩) (aB_ hn738_7) (.int .i64 t734)).trans hx738_0; replace hx738_1 := (cell_far (p := ⟨gb737, 7, none⟩) (aB_ hn738_7) (.int .i64 t734)).trans hx738_1; replace hx738_2 := (cell_far (p := ⟨gb737, 7, none⟩) (aB_ hn738_7) (.int .i64 t734)).trans hx738_2; replace hx738_0 := (cell_far (p := ⟨gb737, 8, none⟩) (aB_ hn738_8) (.int .i64 t735)).trans hx738_0; replace hx738_1 := (cell_far (p := ⟨gb737, 8, none⟩) (aB_ hn738_8) (.int .i64 t735)).trans hx738_1; replace hx738_2 := (cell_far (p := ⟨gb737, 8, none⟩) (aB_ hn738_8) (.int .i64 t735)).trans hx738_2; replace hx738_0 := (cell_far (p := ⟨gb737, 9, none⟩) (aB_ hn738_9) (.bool t736)).trans hx738_0; replace hx738_1 := (cell_far (p := ⟨gb737, 9, none⟩) (aB_ hn738_9) (.bool t736)).trans hx738_1; replace hx738_2 := (cell_far (p := ⟨gb737, 9, none⟩) (aB_ hn738_9) (.bool t736)).trans hx738_2; clear hn738_0; clear hn738_1; clear hn738_2; clear hn738_3; clear hn738_4; clear hn738_5; clear hn738_6; clear hn738_7; clear hn738_8; clear hn738_9; replace p738 := eq_true p738; replace q738 := eq_true q738) | ((with_reducible refine gate_dst (N := 8) rfl ?_); (try (refine gate_guard (by rfl) ?_; dsimp only)); refine box_event ?hg (N := 8) ?hd (cs := #[.string (⟨#[]⟩ : ByteArray), .slice none 0 0, .slice none 0 0]) (t := 39) ?hr ?_; (case hd => rfl); (case hg => rfl); (case hr => first | (go_simp; done) | (go_simp; rfl)); intro gb739 hg w25 hbox hb; replace HO724 := Aside0.mk (Kd.R_below (by (with_reducible repeat (first | apply Kd.R_alloc | apply Kd.R_drewN | apply Kd.R_drew)); exact (Kd.R_mono (far10_ (Kd.R_types HO724.out BK737.out (by decide)) gb737 (fun _ hk => hk.2) (.int .i64 t719) (.int .i64 t720) (.int .i64 t721) (.slice Ao20 t722.length co20) (.slice Ao21 t725.length co21) (.slice Ao22 t728.length co22) (.slice Ao23 t731.length co23) (.int .i64 t734) (.int .i64 t735) (.bool t736)) (fun _ h_ => h_.1))) hb); replace HO727 := Aside0.mk (Kd.R_below (by (with_reducible repeat (first | apply Kd.R_alloc | apply Kd.R_drewN | apply Kd.R_drew)); exact (Kd.R_mono (far10_ (Kd.R_types HO727.out BK737.out (by decide)) gb737 (fun _ hk => hk.2) (.int .i64 t719) (.int .i64 t720) (.int .i64 t721) (.slice Ao20 t722.length co20) (.slice Ao21 t725.length co21) (.slice Ao22 t728.length co22) (.slice Ao23 t731.length co23) (.int .i64 t734) (.int .i64 t735) (.bool t736)) (fun _ h_ => h_.1))) hb); replace HO730 := Aside0.mk (Kd.R_below (by (with_reducible repeat (first | apply Kd.R_alloc | apply Kd.R_drewN | apply Kd.R_drew)); exact (Kd.R_mono (far10_ (Kd.R_types HO730.out BK737.out (by decide)) gb737 (fun _ hk => hk.2) (.int .i64 t719) (.int .i64 t720) (.int .i64 t721) (.slice Ao20 t722.length co20) (.slice Ao21 t725.length co21) (.slice Ao22 t728.length co22) (.slice Ao23 t731.length co23) (.int .i64 t734) (.int .i64 t735) (.bool t736)) (fun _ h_ => h_.1))) hb); replace HO733 := Aside0.mk (Kd.R_below (by (with_reducible repeat (first | apply Kd.R_alloc | apply Kd.R_drewN | apply Kd.R_drew)); exact (Kd.R_mono (far10_ (Kd.R_types HO733.out BK737.out (by decide)) gb737 (fun _ hk => hk.2) (.int .i64 t719) (.int .i64 t720) (.int .i64 t721) (.slice Ao20 t722.length co20) (.slice Ao21 t725.length co21) (.slice Ao22 t728.length co22) (.slice Ao23 t731.length co23) (.int .i64 t734) (.int .i64 t735) (.bool t736)) (fun _ h_ => h_.1))) hb); have BK739 := Aside0.mk (hbox); have GW739 := Aside0.mk ((dS_ hg (dL3_ HB GE716 GE717 GE737) : w.heap.size ≤ gb739)); have GE739 := Aside0.mk ((dS_ hg (dL3_ HB GE716 GE717 GE737) : w.heap.size ≤ gb739)); replace HB := Aside0.mk (below_step (dL3_ HB GE716 GE717 GE737) hb); have NB716_739 := Aside0.mk ((by rw [hg]; exact Nat.ne_of_lt (blk_lt (g := gb716) (o := .cells #[.int .i64 a1_0, .int .i64 a1_1, .int .i64 a1_2, .slice A1_3 l1_3.length c1_3, .slice A1_4 l1_4.length c1_4, .slice A1_5 l1_5.length c1_5, .slice A1_6 l1_6.length c1_6, .int .i64 a1_7, .int .i64 a1_8, .bool a1_9] 25 (0, 0)) (dF10_ BK716 NB716_737)) : gb716 ≠ gb739)); have NB739_716 := Aside0.mk ((by rw [hg]; exact Nat.ne_of_gt (blk_lt (g := gb716) (o := .cells #[.int .i64 a1_0, .int .i64 a1_1, .int .i64 a1_2, .slice A1_3 l1_3.length c1_3, .slice A1_4 l1_4.length c1_4, .slice A1_5 l1_5.length c1_5, .slice A1_6 l1_6.length c1_6, .int .i64 a1_7, .int .i64 a1_8, .bool a1_9] 25 (0, 0)) (dF10_ BK716 NB716_737)) : gb739 ≠ gb716)); replace BK716 := Aside0.mk (blk_below (g := gb716) (o := .cells #[.int .i64 a1_0, .int .i64 a1_1, .int .i64 a1_2, .slice A1_3 l1_3.length c1_3, .slice A1_4 l1_4.length c1_4, .slice A1_5 l1_5.length c1_5, .slice A1_6 l1_6.length c1_6, .int .i64 a1_7, .int .i64 a1_8, .bool a1_9] 25 (0, 0)) (dF10_ BK716 NB716_737) hb); have NB717_739 := Aside0.mk ((by rw [hg]; exact Nat.ne_of_lt (blk_lt (g := gb717) (o := .cells #[.int .i64 0, .int .i64 0, .int .i64 0, .slice none 0 0, .slice none 0 0, .slice none 0 0, .slice none 0 0, .int .i64 0, .int .i64 0, .bool false] 25 (0, 0)) (dF10_ BK717 NB717_737)) : gb717 ≠ gb739)); have NB739_717 := Aside0.mk ((by rw [hg]; exact Nat.ne_of_gt (blk_lt (g := gb717) (o := .cells #[.int .i64 0, .int .i64 0, .int .i64 0, .slice none 0 0, .slice none 0 0, .slice none 0 0, .slice none 0 0, .int .i64 0, .int .i64 0, .bool false] 25 (0, 0)) (dF10_ BK717 NB717_737)) : gb739 ≠ gb717)); replace BK717 := Aside0.mk (blk_below (g := gb717) (o := .cells #[.int .i64 0, .int .i64 0, .int .i64 0, .slice none 0 0, .slice none 0 0, .slice none 0 0, .slice none 0 0, .int .i64 0, .int .i64 0, .bool false] 25 (0, 0)) (dF10_ BK717 NB717_737) hb); have NB737_739 := Aside0.mk ((by rw [hg]; exact Nat.ne_of_lt (blk_lt (g := gb737) (o := .cells #[.int .i64 t719, .int .i64 t720, .int .i64 t721, .slice Ao20 t722.length co20, .slice Ao21 t725.length co21, .slice Ao22 t728.length co22, .slice Ao23 t731.length co23, .int .i64 t734, .int .i64 t735, .bool t736] 25 (0, 0)) (dP10_ BK737)) : gb737 ≠ gb739)); have NB739_737 := Aside0.mk ((by rw [hg]; exact Nat.ne_of_gt (blk_lt (g := gb737) (o := .cells #[.int .i64 t719, .int .i64 t720, .int .i64 t721, .slice Ao20 t722.length co20, .slice Ao21 t725.length co21, .slice Ao22 t728.length co22, .slice Ao23 t731.length co23, .int .i64 t734, .int .i64 t735, .bool t736] 25 (0, 0)) (dP10_ BK737)) : gb739 ≠ gb737)); replace BK737 := Aside0.mk (blk_below (g := gb737) (o := .cells #[.int .i64 t719, .int .i64 t720, .int .i64 t721, .slice Ao20 t722.length co20, .slice Ao21 t725.length co21, .slice Ao22 t728.length co22, .slice Ao23 t731.length co23, .int .i64 t734, .int .i64 t735, .bool t736] 25 (0, 0)) (dP10_ BK737) hb); clear hb hbox hg; have hnb26 := NB739_716.out; have hnc26 := NB716_739.out; have hnb27 := NB739_717.out; have hnc27 := NB717_739.out; have hnb28 := NB739_737.out; have hnc28 := NB737_739.out; obtain ⟨hcz29_0, hcz29_1, hcz29_2, hfz29_0, hfz29_1, hfz29_2⟩ := cs3_ BK739.out))
    (try simp only [Act.put, sI_, s0_, sS_])
    go_cut [34] (fun v34 wc => ∃ (kq : Nat) (x34_7 : Bool), v34 = .bool x34_7 ∧ Aside0 (plant_Work.j0 kq x34_7 a1_0 a1_1 a1_2 l1_3 l1_4 l1_5 l1_6 a1_7 a1_8 a1_9 t719 t720 t721 t722 t725 t728 t731 t734 t735 t736 ((rd_T39 l0 a1_0).f0) ((rd_T39 l0 a1_0).f1) ((rd_T39 l0 a1_0).f2) = some (r1, r2, r3, r4, r5, r6, r7, r8, r9, r10, r11)) ∧ Aside0 (kq ≤ k) ∧ Aside0 (Kd.R (Kd.int .i64) 3 wc w.heap.size (fun k_ => some k_ ≠ ((.slice Ao21 t725.length co21) : Value).ownBlock ∧ some k_ ≠ ((.slice Ao22 t728.length co22) : Value).ownBlock ∧ some k_ ≠ ((.slice Ao23 t731.length co23) : Value).ownBlock) (.slice Ao20 t722.length co20) t722) ∧ Aside0 (Kd.R (Kd.int .i64) 3 wc w.heap.size (fun k_ => some k_ ≠ ((.slice Ao20 t722.length co20) : Value).ownBlock ∧ some k_ ≠ ((.slice Ao22 t728.length co22) : Value).ownBlock ∧ some k_ ≠ ((.slice Ao23 t731.length co23) : Value).ownBlock) (.slice Ao21 t725.length co21) t725) ∧ Aside0 (Kd.R (Kd.int .i64) 3 wc w.heap.size (fun k_ => some k_ ≠ ((.slice Ao20 t722.length co20) : Value).ownBlock ∧ some k_ ≠ ((.slice Ao21 t725.length co21) : Value).ownBlock ∧ some k_ ≠ ((.slice Ao23 t731.length co23) : Value).ownBlock) (.slice Ao22 t728.length co22) t728) ∧ Aside0 (Kd.R (Kd.int .i64) 3 wc w.heap.size (fun k_ => some k_ ≠ ((.slice Ao20 t722.length co20) : Value).ownBlock ∧ some k_ ≠ ((.slice Ao21 t725.length co21) : Value).ownBlock ∧ some k_ ≠ ((.slice Ao22 t728.length co22) : Value).ownBlock) (.slice Ao23 t731.length co23) t731) ∧ Aside0 (wc.heap[gb716]? = some (.cells #[.int .i64 a1_0, .int .i64 a1_1, .int .i64 a1_2, (.slice A1_3 l1_3.length c1_3), (.slice A1_4 l1_4.length c1_4), (.slice A1_5 l1_5.length c1_5), (.slice A1_6 l1_6.length c1_6), .int .i64 a1_7, .int .i64 a1_8, .bool a1_9] 25 (0, 0))) ∧ Aside0 (wc.heap[gb717]? = some (.cells #[.int .i64 0, .int .i64 0, .int .i64 0, (.slice none 0 0), (.slice none 0 0), (.slice none 0 0), (.slice none 0 0), .int .i64 0, .int .i64 0, .bool false] 25 (0, 0))) ∧ Aside0 (wc.heap[gb737]? = some (.cells #[.int .i64 t719, .int .i64 t720, .int .i64 t721, (.slice Ao20 t722.length co20), (.slice Ao21 t725.length co21), (.slice Ao22 t728.length co22), (.slice Ao23 t731.length co23), .int .i64 t734, .int .i64 t735, .bool t736] 25 (0, 0))) ∧ Aside0 (wc.heap[gb739]? = some (.cells #[.string ((rd_T39 l0 a1_0).f0), (.slice A738_1 ((rd_T39 l0 a1_0).f1).length c738_1), (.slice A738_2 ((rd_T39 l0 a1_0).f2).length c738_2)] 39 (0, 0))) ∧ Aside0 (Below w.heap.size w wc))
    case first =>
     have H := HC8.out
     clear HC8
     by_cases c30 : a1_9 = true
     ·subst c30
      have H1 : (plant_Work.j0 k (decide ((((rd_T39 l0 a1_0).f1).length : Int) > 0)) a1_0 a1_1 a1_2 l1_3 l1_4 l1_5 l1_6 a1_7 a1_8 true t719 t720 t721 t722 t725 t728 t731 t734 t735 t736 ((rd_T39 l0 a1_0).f0) ((rd_T39 l0 a1_0).f1) ((rd_T39 l0 a1_0).f2)) = some (r1, r2, r3, r4, r5, r6, r7, r8, r9, r10, r11) := by rw [if_pos rfl] at H; exact H
      clear H
      have H := H1
      clear H1
      have H' := Aside0.mk H
      clear H
      have hnb31 := NB716_717.out
      have hnc31 := NB717_716.out
      have hnb32 := NB716_737.out
      have hnc32 := NB737_716.out
      have hnb33 := NB716_739.out
      have hnc33 := NB739_716.out
      obtain ⟨hcz34_0, hcz34_1, hcz34_2, hcz34_3, hcz34_4, hcz34_5, hcz34_6, hcz34_7, hcz34_8, hcz34_9, hfz34_0, hfz34_1, hfz34_2, hfz34_3, hfz34_4, hfz34_5, hfz34_6, hfz34_7, hfz34_8, hfz34_9⟩ := cs10_ BK716.out
      have hnb35 := NB739_717.out
      have hnc35 := NB717_739.out
      have hnb36 := NB739_737.out
      have hnc36 := NB737_739.out
      obtain ⟨hcz37_0, hcz37_1, hcz37_2, hfz37_0, hfz37_1, hfz37_2⟩ := cs3_ BK739.out
      go_wp2
      go_meet
      case rel => exact ⟨_, (decide ((((rd_T39 l0 a1_0).f1).length : Int) > 0)), tS_, H', ⟨by first | omega | exact Nat.le_refl _⟩, ⟨by (with_reducible repeat (first | apply Kd.R_alloc | apply Kd.R_drewN | apply Kd.R_drew)); exact Kd.R_mono (Kd.R_far (p := ⟨gb739, 2, none⟩) (Kd.R_far (p := ⟨gb739, 1, none⟩) (Kd.R_far (p := ⟨gb739, 0, none⟩) (Kd.R_types HO724.out BK739.out (by decide)) (fun _ hk => hk.2) (.string ((rd_T39 l0 a1_0).f0))) (fun _ hk => hk.2) (.slice A738_1 ((rd_T39 l0 a1_0).f1).length c738_1)) (fun _ hk => hk.2) (.slice A738_2 ((rd_T39 l0 a1_0).f2).length c738_2)) (fun _ hk => ⟨hk.1.1, ⟨hk.1.2.1, hk.1.2.2⟩⟩)⟩, ⟨by (with_reducible repeat (first | apply Kd.R_alloc | apply Kd.R_drewN | apply Kd.R_drew)); exact Kd.R_mono (Kd.R_far (p := ⟨gb739, 2, none⟩) (Kd.R_far (p := ⟨gb739, 1, none⟩) (Kd.R_far (p := ⟨gb739, 0, none⟩) (Kd.R_types HO727.out BK739.out (by decide)) (fun _ hk => hk.2) (.string ((rd_T39 l0 a1_0).f0))) (fun _ hk => hk.2) (.slice A738_1 ((rd_T39 l0 a1_0).f1).length c738_1)) (fun _ hk => hk.2) (.slice A738_2 ((rd_T39 l0 a1_0).f2).length c738_2)) (fun _ hk => ⟨hk.1.1, ⟨hk.1.2.1, hk.1.2.2⟩⟩)⟩, ⟨by (with_reducible repeat (first | apply Kd.R_alloc | apply Kd.R_drewN | apply Kd.R_drew)); exact Kd.R_mono (Kd.R_far (p := ⟨gb739, 2, none⟩) (Kd.R_far (p := ⟨gb739, 1, none⟩) (Kd.R_far (p := ⟨gb739, 0, none⟩) (Kd.R_types HO730.out BK739.out (by decide)) (fun _ hk => hk.2) (.string ((rd_T39 l0 a1_0).f0))) (fun _ hk => hk.2) (.slice A738_1 ((rd_T39 l0 a1_0).f1).length c738_1)) (fun _ hk => hk.2) (.slice A738_2 ((rd_T39 l0 a1_0).f2).length c738_2)) (fun _ hk => ⟨hk.1.1, ⟨hk.1.2.1, hk.1.2.2⟩⟩)⟩, ⟨by (with_reducible repeat (first | apply Kd.R_alloc | apply Kd.R_drewN | apply Kd.R_drew)); exact Kd.R_mono (Kd.R_far (p := ⟨gb739, 2, none⟩) (Kd.R_far (p := ⟨gb739, 1, none⟩) (Kd.R_far (p := ⟨gb739, 0, none⟩) (Kd.R_types HO733.out BK739.out (by decide)) (fun _ hk => hk.2) (.string ((rd_T39 l0 a1_0).f0))) (fun _ hk => hk.2) (.slice A738_1 ((rd_T39 l0 a1_0).f1).length c738_1)) (fun _ hk => hk.2) (.slice A738_2 ((rd_T39 l0 a1_0).f2).length c738_2)) (fun _ hk => ⟨hk.1.1, ⟨hk.1.2.1, hk.1.2.2⟩⟩)⟩, ⟨by (with_reducible repeat (first | refine blk_drewN ?_ _ | refine blk_drew ?_ | refine blk_alloc ?_ _)); refine blk_far ?_ NB716_739.out _; (with_reducible repeat (first | refine blk_drewN ?_ _ | refine blk_drew ?_ | refine blk_alloc ?_ _)); refine blk_far ?_ NB716_739.out _; (with_reducible repeat (first | refine blk_drewN ?_ _ | refine blk_drew ?_ | refine blk_alloc ?_ _)); refine blk_far ?_ NB716_739.out _; (with_reducible repeat (first | refine blk_drewN ?_ _ | refine blk_drew ?_ | refine blk_alloc ?_ _)); exact BK716.out⟩, ⟨by (with_reducible repeat (first | refine blk_drewN ?_ _ | refine blk_drew ?_ | refine blk_alloc ?_ _)); refine blk_far ?_ NB717_739.out _; (with_reducible repeat (first | refine blk_drewN ?_ _ | refine blk_drew ?_ | refine blk_alloc ?_ _)); refine blk_far ?_ NB717_739.out _; (with_reducible repeat (first | refine blk_drewN ?_ _ | refine blk_drew ?_ | refine blk_alloc ?_ _)); refine blk_far ?_ NB717_739.out _; (with_reducible repeat (first | refine blk_drewN ?_ _ | refine blk_drew ?_ | refine blk_alloc ?_ _)); exact BK717.out⟩, ⟨by (with_reducible repeat (first | refine blk_drewN ?_ _ | refine blk_drew ?_ | refine blk_alloc ?_ _)); refine blk_far ?_ NB737_739.out _; (with_reducible repeat (first | refine blk_drewN ?_ _ | refine blk_drew ?_ | refine blk_alloc ?_ _)); refine blk_far ?_ NB737_739.out _; (with_reducible repeat (first | refine blk_drewN ?_ _ | refine blk_drew ?_ | refine blk_alloc ?_ _)); refine blk_far ?_ NB737_739.out _; (with_reducible repeat (first | refine blk_drewN ?_ _ | refine blk_drew ?_ | refine blk_alloc ?_ _)); exact BK737.out⟩, ⟨by (with_reducible repeat (first | refine blk_drewN ?_ _ | refine blk_drew ?_ | refine blk_alloc ?_ _)); refine blk_put (cs := #[.string ((rd_T39 l0 a1_0).f0), .slice A738_1 ((rd_T39 l0 a1_0).f1).length c738_1, .slice none 0 0]) ?_ 2 _ rfl; (with_reducible repeat (first | refine blk_drewN ?_ _ | refine blk_drew ?_ | refine blk_alloc ?_ _)); refine blk_put (cs := #[.string ((rd_T39 l0 a1_0).f0), .slice none 0 0, .slice none 0 0]) ?_ 1 _ rfl; (with_reducible repeat (first | refine blk_drewN ?_ _ | refine blk_drew ?_ | refine blk_alloc ?_ _)); refine blk_put (cs := #[.string (⟨#[]⟩ : ByteArray), .slice none 0 0, .slice none 0 0]) ?_ 0 _ rfl; (with_reducible repeat (first | refine blk_drewN ?_ _ | refine blk_drew ?_ | refine blk_alloc ?_ _)); exact BK739.out⟩, ⟨dL4_ HB GE716 GE717 GE737 GE739⟩⟩
     ·replace c30 := Bool.eq_false_iff.mpr c30
      subst c30
      have H1 : (plant_Work.j0 k true a1_0 a1_1 a1_2 l1_3 l1_4 l1_5 l1_6 a1_7 a1_8 false t719 t720 t721 t722 t725 t728 t731 t734 t735 t736 ((rd_T39 l0 a1_0).f0) ((rd_T39 l0 a1_0).f1) ((rd_T39 l0 a1_0).f2)) = some (r1, r2, r3, r4, r5, r6, r7, r8, r9, r10, r11) := by rw [if_neg (show ¬ (false = true) by decide)] at H; exact H
      clear H
      have H := H1
      clear H1
      have H' := Aside0.mk H
      clear H
      have hnb38 := NB716_717.out
      have hnc38 := NB717_716.out
      have hnb39 := NB716_737.out
      have hnc39 := NB737_716.out
      have hnb40 := NB716_739.out
      have hnc40 := NB739_716.out
      obtain ⟨hcz41_0, hcz41_1, hcz41_2, hcz41_3, hcz41_4, hcz41_5, hcz41_6, hcz41_7, hcz41_8, hcz41_9, hfz41_0, hfz41_1, hfz41_2, hfz41_3, hfz41_4, hfz41_5, hfz41_6, hfz41_7, hfz41_8, hfz41_9⟩ := cs10_ BK716.out
      go_wp2
      go_meet
      case rel => exact ⟨_, (true), tS_, H', ⟨by first | omega | exact Nat.le_refl _⟩, ⟨by (with_reducible repeat (first | apply Kd.R_alloc | apply Kd.R_drewN | apply Kd.R_drew)); exact Kd.R_mono (Kd.R_far (p := ⟨gb739, 2, none⟩) (Kd.R_far (p := ⟨gb739, 1, none⟩) (Kd.R_far (p := ⟨gb739, 0, none⟩) (Kd.R_types HO724.out BK739.out (by decide)) (fun _ hk => hk.2) (.string ((rd_T39 l0 a1_0).f0))) (fun _ hk => hk.2) (.slice A738_1 ((rd_T39 l0 a1_0).f1).length c738_1)) (fun _ hk => hk.2) (.slice A738_2 ((rd_T39 l0 a1_0).f2).length c738_2)) (fun _ hk => ⟨hk.1.1, ⟨hk.1.2.1, hk.1.2.2⟩⟩)⟩, ⟨by (with_reducible repeat (first | apply Kd.R_alloc | apply Kd.R_drewN | apply Kd.R_drew)); exact Kd.R_mono (Kd.R_far (p := ⟨gb739, 2, none⟩) (Kd.R_far (p := ⟨gb739, 1, none⟩) (Kd.R_far (p := ⟨gb739, 0, none⟩) (Kd.R_types HO727.out BK739.out (by decide)) (fun _ hk => hk.2) (.string ((rd_T39 l0 a1_0).f0))) (fun _ hk => hk.2) (.slice A738_1 ((rd_T39 l0 a1_0).f1).length c738_1)) (fun _ hk => hk.2) (.slice A738_2 ((rd_T39 l0 a1_0).f2).length c738_2)) (fun _ hk => ⟨hk.1.1, ⟨hk.1.2.1, hk.1.2.2⟩⟩)⟩, ⟨by (with_reducible repeat (first | apply Kd.R_alloc | apply Kd.R_drewN | apply Kd.R_drew)); exact Kd.R_mono (Kd.R_far (p := ⟨gb739, 2, none⟩) (Kd.R_far (p := ⟨gb739, 1, none⟩) (Kd.R_far (p := ⟨gb739, 0, none⟩) (Kd.R_types HO730.out BK739.out (by decide)) (fun _ hk => hk.2) (.string ((rd_T39 l0 a1_0).f0))) (fun _ hk => hk.2) (.slice A738_1 ((rd_T39 l0 a1_0).f1).length c738_1)) (fun _ hk => hk.2) (.slice A738_2 ((rd_T39 l0 a1_0).f2).length c738_2)) (fun _ hk => ⟨hk.1.1, ⟨hk.1.2.1, hk.1.2.2⟩⟩)⟩, ⟨by (with_reducible repeat (first | apply Kd.R_alloc | apply Kd.R_drewN | apply Kd.R_drew)); exact Kd.R_mono (Kd.R_far (p := ⟨gb739, 2, none⟩) (Kd.R_far (p := ⟨gb739, 1, none⟩) (Kd.R_far (p := ⟨gb739, 0, none⟩) (Kd.R_types HO733.out BK739.out (by decide)) (fun _ hk => hk.2) (.string ((rd_T39 l0 a1_0).f0))) (fun _ hk => hk.2) (.slice A738_1 ((rd_T39 l0 a1_0).f1).length c738_1)) (fun _ hk => hk.2) (.slice A738_2 ((rd_T39 l0 a1_0).f2).length c738_2)) (fun _ hk => ⟨hk.1.1, ⟨hk.1.2.1, hk.1.2.2⟩⟩)⟩, ⟨by (with_reducible repeat (first | refine blk_drewN ?_ _ | refine blk_drew ?_ | refine blk_alloc ?_ _)); refine blk_far ?_ NB716_739.out _; (with_reducible repeat (first | refine blk_drewN ?_ _ | refine blk_drew ?_ | refine blk_alloc ?_ _)); refine blk_far ?_ NB716_739.out _; (with_reducible repeat (first | refine blk_drewN ?_ _ | refine blk_drew ?_ | refine blk_alloc ?_ _)); refine blk_far ?_ NB716_739.out _; (with_reducible repeat (first | refine blk_drewN ?_ _ | refine blk_drew ?_ | refine blk_alloc ?_ _)); exact BK716.out⟩, ⟨by (with_reducible repeat (first | refine blk_drewN ?_ _ | refine blk_drew ?_ | refine blk_alloc ?_ _)); refine blk_far ?_ NB717_739.out _; (with_reducible repeat (first | refine blk_drewN ?_ _ | refine blk_drew ?_ | refine blk_alloc ?_ _)); refine blk_far ?_ NB717_739.out _; (with_reducible repeat (first | refine blk_drewN ?_ _ | refine blk_drew ?_ | refine blk_alloc ?_ _)); refine blk_far ?_ NB717_739.out _; (with_reducible repeat (first | refine blk_drewN ?_ _ | refine blk_drew ?_ | refine blk_alloc ?_ _)); exact BK717.out⟩, ⟨by (with_reducible repeat (first | refine blk_drewN ?_ _ | refine blk_drew ?_ | refine blk_alloc ?_ _)); refine blk_far ?_ NB737_739.out _; (with_reducible repeat (first | refine blk_drewN ?_ _ | refine blk_drew ?_ | refine blk_alloc ?_ _)); refine blk_far ?_ NB737_739.out _; (with_reducible repeat (first | refine blk_drewN ?_ _ | refine blk_drew ?_ | refine blk_alloc ?_ _)); refine blk_far ?_ NB737_739.out _; (with_reducible repeat (first | refine blk_drewN ?_ _ | refine blk_drew ?_ | refine blk_alloc ?_ _)); exact BK737.out⟩, ⟨by (with_reducible repeat (first | refine blk_drewN ?_ _ | refine blk_drew ?_ | refine blk_alloc ?_ _)); refine blk_put (cs := #[.string ((rd_T39 l0 a1_0).f0), .slice A738_1 ((rd_T39 l0 a1_0).f1).length c738_1, .slice none 0 0]) ?_ 2 _ rfl; (with_reducible repeat (first | refine blk_drewN ?_ _ | refine blk_drew ?_ | refine blk_alloc ?_ _)); refine blk_put (cs := #[.string ((rd_T39 l0 a1_0).f0), .slice none 0 0, .slice none 0 0]) ?_ 1 _ rfl; (with_reducible repeat (first | refine blk_drewN ?_ _ | refine blk_drew ?_ | refine blk_alloc ?_ _)); refine blk_put (cs := #[.string (⟨#[]⟩ : ByteArray), .slice none 0 0, .slice none 0 0]) ?_ 0 _ rfl; (with_reducible repeat (first | refine blk_drewN ?_ _ | refine blk_drew ?_ | refine blk_alloc ?_ _)); exact BK739.out⟩, ⟨dL4_ HB GE716 GE717 GE737 GE739⟩⟩
    case rest =>
     clear HC8
     try clear c4
     try clear c4b0
     try clear c4b1
     try clear c6
     try clear c6b0
     try clear c7
     try clear c7b0
     try clear hcz12_0
     try clear hcz12_1
     try clear hcz12_2
     try clear hcz12_3
     try clear hcz12_4
     try clear hcz12_5
     try clear hcz12_6
     try clear hcz12_7
     try clear hcz12_8
     try clear hcz12_9
     try clear hcz14_0
     try clear hcz14_1
     try clear hcz14_2
     try clear hcz14_3
     try clear hcz14_4
     try clear hcz14_5
     try clear hcz14_6
     try clear hcz14_7
     try clear hcz14_8
     try clear hcz14_9
     try clear hcz19_0
     try clear hcz19_1
     try clear hcz19_2
     try clear hcz19_3
     try clear hcz19_4
     try clear hcz19_5
     try clear hcz19_6
     try clear hcz19_7
     try clear hcz19_8
     try clear hcz19_9
     try clear hcz24_0
     try clear hcz24_1
     try clear hcz24_2
     try clear hcz24_3
     try clear hcz24_4
     try clear hcz24_5
     try clear hcz24_6
     try clear hcz24_7
     try clear hcz24_8
     try clear hcz24_9
     try clear hcz29_0
     try clear hcz29_1
     try clear hcz29_2
     try clear hfz12_0
     try clear hfz12_1
     try clear hfz12_2
     try clear hfz12_3
     try clear hfz12_4
     try clear hfz12_5
     try clear hfz12_6
     try clear hfz12_7
     try clear hfz12_8
     try clear hfz12_9
     try clear hfz14_0
     try clear hfz14_1
     try clear hfz14_2
     try clear hfz14_3
     try clear hfz14_4
     try clear hfz14_5
     try clear hfz14_6
     try clear hfz14_7
     try clear hfz14_8
     try clear hfz14_9
     try clear hfz19_0
     try clear hfz19_1
     try clear hfz19_2
     try clear hfz19_3
     try clear hfz19_4
     try clear hfz19_5
     try clear hfz19_6
     try clear hfz19_7
     try clear hfz19_8
     try clear hfz19_9
     try clear hfz24_0
     try clear hfz24_1
     try clear hfz24_2
     try clear hfz24_3
     try clear hfz24_4
     try clear hfz24_5
     try clear hfz24_6
     try clear hfz24_7
     try clear hfz24_8
     try clear hfz24_9
     try clear hfz29_0
     try clear hfz29_1
     try clear hfz29_2
     try clear hx738_0
     try clear hx738_1
     try clear hx738_2
     try clear p738
     try clear q738
     obtain ⟨kq, x34_7, rfl, HA, HJ7, HO_738003, HO_738004, HO_738005, HO_738006, BK716, BK717, BK737, BK739, HB⟩ := hcut
     cases kq with
     | zero => exact absurd HA.out (by simp [plant_Work.j0])
     | succ kj7 =>
      have H := HA.out
      clear HA
      simp only [plant_Work.j0] at H
      by_cases c42 : x34_7 = true
      ·subst c42
       have H1 : (some (t719, t720, t721, t722, t725, t728, t731, t734, t735, t736, 0)) = some (r1, r2, r3, r4, r5, r6, r7, r8, r9, r10, r11) := by rw [if_pos rfl] at H; exact H
       clear H
       have H := H1
       clear H1
       simp only [Option.some.injEq, Prod.mk.injEq] at H
       obtain ⟨rfl, rfl, rfl, rfl, rfl, rfl, rfl, rfl, rfl, rfl, rfl⟩ := H
       have hnb43 := NB737_716.out
       have hnc43 := NB716_737.out
       have hnb44 := NB737_717.out
       have hnc44 := NB717_737.out
       have hnb45 := NB737_739.out
       have hnc45 := NB739_737.out
       obtain ⟨hcz46_0, hcz46_1, hcz46_2, hcz46_3, hcz46_4, hcz46_5, hcz46_6, hcz46_7, hcz46_8, hcz46_9, hfz46_0, hfz46_1, hfz46_2, hfz46_3, hfz46_4, hfz46_5, hfz46_6, hfz46_7, hfz46_8, hfz46_9⟩ := cs10_ BK737.out
       have hnb47 := NB717_716.out
       have hnc47 := NB716_717.out
       have hnb48 := NB717_739.out
       have hnc48 := NB739_717.out
       obtain ⟨hcz49_0, hcz49_1, hcz49_2, hcz49_3, hcz49_4, hcz49_5, hcz49_6, hcz49_7, hcz49_8, hcz49_9, hfz49_0, hfz49_1, hfz49_2, hfz49_3, hfz49_4, hfz49_5, hfz49_6, hfz49_7, hfz49_8, hfz49_9⟩ := cs10_ BK717.out
       go_wp2
       refine bodyPost_ret (results_ct rfl _ _ gb717 25 #[.int .i64 t719, .int .i64 t720, .int .i64 t721, .slice Ao20 t722.length co20, .slice Ao21 t725.length co21, .slice Ao22 t728.length co22, .slice Ao23 t731.length co23, .int .i64 t734, .int .i64 t735, .bool t736] (0, 0) _ rfl (dP10_ BK717) Try.underlying25 rfl (by kernel_rfl)) rfl ?_
       exact ⟨_, _, _, _, tE_, by (with_reducible repeat (first | apply Kd.R_alloc | apply Kd.R_drewN | apply Kd.R_drew)); exact Kd.R_mono (far10_ (Kd.R_types HO_738003.out BK717.out (by decide)) gb717 (fun _ hk => hk.2) (.int .i64 t719) (.int .i64 t720) (.int .i64 t721) (.slice Ao20 t722.length co20) (.slice Ao21 t725.length co21) (.slice Ao22 t728.length co22) (.slice Ao23 t731.length co23) (.int .i64 t734) (.int .i64 t735) (.bool t736)) (fun _ hk => ⟨hk.1.1, ⟨hk.1.2.1, hk.1.2.2⟩⟩), by (with_reducible repeat (first | apply Kd.R_alloc | apply Kd.R_drewN | apply Kd.R_drew)); exact Kd.R_mono (far10_ (Kd.R_types HO_738004.out BK717.out (by decide)) gb717 (fun _ hk => hk.2) (.int .i64 t719) (.int .i64 t720) (.int .i64 t721) (.slice Ao20 t722.length co20) (.slice Ao21 t725.length co21) (.slice Ao22 t728.length co22) (.slice Ao23 t731.length co23) (.int .i64 t734) (.int .i64 t735) (.bool t736)) (fun _ hk => ⟨hk.1.1, ⟨hk.1.2.1, hk.1.2.2⟩⟩), by (with_reducible repeat (first | apply Kd.R_alloc | apply Kd.R_drewN | apply Kd.R_drew)); exact Kd.R_mono (far10_ (Kd.R_types HO_738005.out BK717.out (by decide)) gb717 (fun _ hk => hk.2) (.int .i64 t719) (.int .i64 t720) (.int .i64 t721) (.slice Ao20 t722.length co20) (.slice Ao21 t725.length co21) (.slice Ao22 t728.length co22) (.slice Ao23 t731.length co23) (.int .i64 t734) (.int .i64 t735) (.bool t736)) (fun _ hk => ⟨hk.1.1, ⟨hk.1.2.1, hk.1.2.2⟩⟩), by (with_reducible repeat (first | apply Kd.R_alloc | apply Kd.R_drewN | apply Kd.R_drew)); exact Kd.R_mono (far10_ (Kd.R_types HO_738006.out BK717.out (by decide)) gb717 (fun _ hk => hk.2) (.int .i64 t719) (.int .i64 t720) (.int .i64 t721) (.slice Ao20 t722.length co20) (.slice Ao21 t725.length co21) (.slice Ao22 t728.length co22) (.slice Ao23 t731.length co23) (.int .i64 t734) (.int .i64 t735) (.bool t736)) (fun _ hk => ⟨hk.1.1, ⟨hk.1.2.1, hk.1.2.2⟩⟩), dL4_ HB GE716 GE717 GE737 GE739⟩
      ·replace c42 := Bool.eq_false_iff.mpr c42
       subst c42
       have H1 : (plant_Work.l0 kj7 ((rd_T39 l0 a1_0).f2) (((rd_T39 l0 a1_0).f2).length : Int) 0 a1_0 a1_1 a1_2 l1_3 l1_4 l1_5 l1_6 a1_7 a1_8 a1_9 t719 t720 t721 t722 t725 t728 t731 t734 t735 t736) = some (r1, r2, r3, r4, r5, r6, r7, r8, r9, r10, r11) := by rw [if_neg (show ¬ (false = true) by decide)] at H; exact H
       clear H
       have H := H1
       clear H1
       have H' := Aside0.mk H
       clear H
       have hnb50 := NB739_716.out
       have hnc50 := NB716_739.out
       have hnb51 := NB739_717.out
       have hnc51 := NB717_739.out
       have hnb52 := NB739_737.out
       have hnc52 := NB737_739.out
       obtain ⟨hcz53_0, hcz53_1, hcz53_2, hfz53_0, hfz53_1, hfz53_2⟩ := cs3_ BK739.out
       go_wp2
       go_loopg [39] kj7 (fun kq v39 w' => ∃ (x39_2 : Int) (x738003_2 : List Int) (x738004_2 : List Int) (x738005_2 : List Int) (x738006_2 : List Int) (u738003 : Value) (u738004 : Value) (u738005 : Value) (u738006 : Value), v39 = .int .i64 x39_2 ∧ Aside0 (plant_Work.l0 kq ((rd_T39 l0 a1_0).f2) (((rd_T39 l0 a1_0).f2).length : Int) x39_2 a1_0 a1_1 a1_2 l1_3 l1_4 l1_5 l1_6 a1_7 a1_8 a1_9 t719 t720 t721 x738003_2 x738004_2 x738005_2 x738006_2 t734 t735 t736 = some (r1, r2, r3, r4, r5, r6, r7, r8, r9, r10, r11)) ∧ Aside0 (kq ≤ kj7) ∧ Aside0 (Kd.R (Kd.int .i64) 3 w' w.heap.size (fun k_ => some k_ ≠ (u738004 : Value).ownBlock ∧ some k_ ≠ (u738005 : Value).ownBlock ∧ some k_ ≠ (u738006 : Value).ownBlock) u738003 x738003_2) ∧ Aside0 (Kd.R (Kd.int .i64) 3 w' w.heap.size (fun k_ => some k_ ≠ (u738003 : Value).ownBlock ∧ some k_ ≠ (u738005 : Value).ownBlock ∧ some k_ ≠ (u738006 : Value).ownBlock) u738004 x738004_2) ∧ Aside0 (Kd.R (Kd.int .i64) 3 w' w.heap.size (fun k_ => some k_ ≠ (u738003 : Value).ownBlock ∧ some k_ ≠ (u738004 : Value).ownBlock ∧ some k_ ≠ (u738006 : Value).ownBlock) u738005 x738005_2) ∧ Aside0 (Kd.R (Kd.int .i64) 3 w' w.heap.size (fun k_ => some k_ ≠ (u738003 : Value).ownBlock ∧ some k_ ≠ (u738004 : Value).ownBlock ∧ some k_ ≠ (u738005 : Value).ownBlock) u738006 x738006_2) ∧ Aside0 (w'.heap[gb716]? = some (.cells #[.int .i64 a1_0, .int .i64 a1_1, .int .i64 a1_2, (.slice A1_3 l1_3.length c1_3), (.slice A1_4 l1_4.length c1_4), (.slice A1_5 l1_5.length c1_5), (.slice A1_6 l1_6.length c1_6), .int .i64 a1_7, .int .i64 a1_8, .bool a1_9] 25 (0, 0))) ∧ Aside0 (w'.heap[gb717]? = some (.cells #[.int .i64 0, .int .i64 0, .int .i64 0, (.slice none 0 0), (.slice none 0 0), (.slice none 0 0), (.slice none 0 0), .int .i64 0, .int .i64 0, .bool false] 25 (0, 0))) ∧ Aside0 (w'.heap[gb737]? = some (.cells #[.int .i64 t719, .int .i64 t720, .int .i64 t721, u738003, u738004, u738005, u738006, .int .i64 t734, .int .i64 t735, .bool t736] 25 (0, 0))) ∧ Aside0 (w'.heap[gb739]? = some (.cells #[.string ((rd_T39 l0 a1_0).f0), (.slice A738_1 ((rd_T39 l0 a1_0).f1).length c738_1), (.slice A738_2 ((rd_T39 l0 a1_0).f2).length c738_2)] 39 (0, 0))) ∧ Aside0 (Below w.heap.size w w'))
       case atStart => exact ⟨(0), (t722), (t725), (t728), (t731), (.slice Ao20 t722.length co20), (.slice Ao21 t725.length co21), (.slice Ao22 t728.length co22), (.slice Ao23 t731.length co23), tS_, H', ⟨Nat.le_refl _⟩, ⟨dR_ HO_738003⟩, ⟨dR_ HO_738004⟩, ⟨dR_ HO_738005⟩, ⟨dR_ HO_738006⟩, ⟨dB_ BK716⟩, ⟨dB_ BK717⟩, ⟨dB_ BK737⟩, ⟨dB_ BK739⟩, ⟨dL4_ HB GE716 GE717 GE737 GE739⟩⟩
       case round =>
        clear H'
        try clear c4
        try clear c4b0
        try clear c4b1
        try clear c6
        try clear c6b0
        try clear c7
        try clear c7b0
        try clear c42
        try clear hcz12_0
        try clear hcz12_1
        try clear hcz12_2
        try clear hcz12_3
        try clear hcz12_4
        try clear hcz12_5
        try clear hcz12_6
        try clear hcz12_7
        try clear hcz12_8
        try clear hcz12_9
        try clear hcz14_0
        try clear hcz14_1
        try clear hcz14_2
        try clear hcz14_3
        try clear hcz14_4
        try clear hcz14_5
        try clear hcz14_6
        try clear hcz14_7
        try clear hcz14_8
        try clear hcz14_9
        try clear hcz19_0
        try clear hcz19_1
        try clear hcz19_2
        try clear hcz19_3
        try clear hcz19_4
        try clear hcz19_5
        try clear hcz19_6
        try clear hcz19_7
        try clear hcz19_8
        try clear hcz19_9
        try clear hcz24_0
        try clear hcz24_1
        try clear hcz24_2
        try clear hcz24_3
        try clear hcz24_4
        try clear hcz24_5
        try clear hcz24_6
        try clear hcz24_7
        try clear hcz24_8
        try clear hcz24_9
        try clear hcz29_0
        try clear hcz29_1
        try clear hcz29_2
        try clear hcz53_0
        try clear hcz53_1
        try clear hcz53_2
        try clear hfz12_0
        try clear hfz12_1
        try clear hfz12_2
        try clear hfz12_3
        try clear hfz12_4
        try clear hfz12_5
        try clear hfz12_6
        try clear hfz12_7
        try clear hfz12_8
        try clear hfz12_9
        try clear hfz14_0
        try clear hfz14_1
        try clear hfz14_2
        try clear hfz14_3
        try clear hfz14_4
        try clear hfz14_5
        try clear hfz14_6
        try clear hfz14_7
        try clear hfz14_8
        try clear hfz14_9
        try clear hfz19_0
        try clear hfz19_1
        try clear hfz19_2
        try clear hfz19_3
        try clear hfz19_4
        try clear hfz19_5
        try clear hfz19_6
        try clear hfz19_7
        try clear hfz19_8
        try clear hfz19_9
        try clear hfz24_0
        try clear hfz24_1
        try clear hfz24_2
        try clear hfz24_3
        try clear hfz24_4
        try clear hfz24_5
        try clear hfz24_6
        try clear hfz24_7
        try clear hfz24_8
        try clear hfz24_9
        try clear hfz29_0
        try clear hfz29_1
        try clear hfz29_2
        try clear hfz53_0
        try clear hfz53_1
        try clear hfz53_2
        try clear hx738_0
        try clear hx738_1
        try clear hx738_2
        try clear p738
        try clear q738
        obtain ⟨x39_2, x738003_2, x738004_2, x738005_2, x738006_2, u738003, u738004, u738005, u738006, rfl, HA, HK2, HO_738003, HO_738004, HO_738005, HO_738006, BK716, BK717, BK737, BK739, HB⟩ := hrel
        cases gk with
        | zero => exact absurd HA.out (by simp [plant_Work.l0])
        | succ k2 =>
         have H := HA.out
         clear HA
         simp only [plant_Work.l0] at H
         by_cases c54 : x39_2 < (((rd_T39 l0 a1_0).f2).length : Int)
         ·rw [if_pos c54] at H
          have c54b0 : decide (x39_2 < (((rd_T39 l0 a1_0).f2).length : Int)) = true := decide_eq_true c54
          clear c54
          by_cases c55 : 0 ≤ x39_2
          ·rw [if_pos c55] at H
           have c55b0 : decide (0 ≤ x39_2) = true := decide_eq_true c55
           clear c55
           by_cases c56 : x39_2 < (((rd_T39 l0 a1_0).f2).length : Int)
           ·rw [if_pos c56] at H
            have c56b0 : decide (x39_2 < (((rd_T39 l0 a1_0).f2).length : Int)) = true := decide_eq_true c56
            clear c56
            by_cases c57 : x39_2 < (x738003_2.length : Int)
            ·rw [if_pos c57] at H
             have c57b0 : decide (x39_2 < (x738003_2.length : Int)) = true := decide_eq_true c57
             clear c57
             obtain ⟨ji58, hji58⟩ : ∃ j_ : Int, (mn (wrap64 (Int.tdiv (wrap64 (((rd_T41 ((rd_T39 l0 a1_0).f2) x39_2).f1) * a1_2)) 16)) (wrap64 (1000000 - (rd x738003_2 x39_2)))) = j_ := ⟨_, rfl⟩
             replace H : (if x39_2 < (x738005_2.length : Int) then (plant_Work.l0 k2 ((rd_T39 l0 a1_0).f2) (((rd_T39 l0 a1_0).f2).length : Int) (wrap64 (x39_2 + 1)) a1_0 a1_1 a1_2 l1_3 l1_4 l1_5 l1_6 a1_7 a1_8 a1_9 t719 t720 t721 (x738003_2.set (x39_2 : Int).toNat (wrap64 ((rd x738003_2 x39_2) + (ji58)))) x738004_2 (x738005_2.set (x39_2 : Int).toNat (mn (wrap64 ((rd x738005_2 x39_2) + (ji58))) 1000000)) x738006_2 t734 t735 t736) else (none)) = some (r1, r2, r3, r4, r5, r6, r7, r8, r9, r10, r11) := by first | (rw [hji58] at H; exact H) | (simp only [hji58] at H ⊢; exact H)
             have hji58_ : (if (wrap64 (1000000 - (rd x738003_2 x39_2))) < (wrap64 (Int.tdiv (wrap64 (((rd_T41 ((rd_T39 l0 a1_0).f2) x39_2).f1) * a1_2)) 16)) then (wrap64 (1000000 - (rd x738003_2 x39_2))) else (wrap64 (Int.tdiv (wrap64 (((rd_T41 ((rd_T39 l0 a1_0).f2) x39_2).f1) * a1_2)) 16))) = ji58 := hji58
             obtain ⟨y744, hy744⟩ : ∃ y_ : List Int, y_ = (x738003_2.set (x39_2 : Int).toNat (wrap64 ((rd x738003_2 x39_2) + (ji58)))) := ⟨_, rfl⟩
             replace H : (if x39_2 < (x738005_2.length : Int) then (plant_Work.l0 k2 ((rd_T39 l0 a1_0).f2) (((rd_T39 l0 a1_0).f2).length : Int) (wrap64 (x39_2 + 1)) a1_0 a1_1 a1_2 l1_3 l1_4 l1_5 l1_6 a1_7 a1_8 a1_9 t719 t720 t721 y744 x738004_2 (x738005_2.set (x39_2 : Int).toNat (mn (wrap64 ((rd x738005_2 x39_2) + (ji58))) 1000000)) x738006_2 t734 t735 t736) else (none)) = some (r1, r2, r3, r4, r5, r6, r7, r8, r9, r10, r11) := by first | (rw [hy744]; with_reducible exact H) | (have H2_ := (Option.bind_some _ _).symm.trans H; rw [hy744]; with_reducible exact H2_) | (have H2_ := (Option.bind_some _ _).symm.trans H; with_reducible exact H2_) | with_reducible exact H | (rw [hy744]; exact H) | exact H
             have Ny744 := Aside0.mk hy744
             clear hy744
             by_cases c60 : x39_2 < (x738005_2.length : Int)
             ·rw [if_pos c60] at H
              have c60b0 : decide (x39_2 < (x738005_2.length : Int)) = true := decide_eq_true c60
              clear c60
              obtain ⟨ji61, hji61⟩ : ∃ j_ : Int, (mn (wrap64 ((rd x738005_2 x39_2) + (ji58))) 1000000) = j_ := ⟨_, rfl⟩
              replace H : (plant_Work.l0 k2 ((rd_T39 l0 a1_0).f2) (((rd_T39 l0 a1_0).f2).length : Int) (wrap64 (x39_2 + 1)) a1_0 a1_1 a1_2 l1_3 l1_4 l1_5 l1_6 a1_7 a1_8 a1_9 t719 t720 t721 y744 x738004_2 (x738005_2.set (x39_2 : Int).toNat (ji61)) x738006_2 t734 t735 t736) = some (r1, r2, r3, r4, r5, r6, r7, r8, r9, r10, r11) := by first | (rw [hji61] at H; exact H) | (simp only [hji61] at H ⊢; exact H)
              have hji61_ : (if 1000000 < (wrap64 ((rd x738005_2 x39_2) + (ji58))) then 1000000 else (wrap64 ((rd x738005_2 x39_2) + (ji58)))) = ji61 := hji61
              obtain ⟨y746, hy746⟩ : ∃ y_ : List Int, y_ = (x738005_2.set (x39_2 : Int).toNat (ji61)) := ⟨_, rfl⟩
              replace H : (plant_Work.l0 k2 ((rd_T39 l0 a1_0).f2) (((rd_T39 l0 a1_0).f2).length : Int) (wrap64 (x39_2 + 1)) a1_0 a1_1 a1_2 l1_3 l1_4 l1_5 l1_6 a1_7 a1_8 a1_9 t719 t720 t721 y744 x738004_2 y746 x738006_2 t734 t735 t736) = some (r1, r2, r3, r4, r5, r6, r7, r8, r9, r10, r11) := by first | (rw [hy746]; with_reducible exact H) | (have H2_ := (Option.bind_some _ _).symm.trans H; rw [hy746]; with_reducible exact H2_) | (have H2_ := (Option.bind_some _ _).symm.trans H; with_reducible exact H2_) | with_reducible exact H | (rw [hy746]; exact H) | exact H
              have Ny746 := Aside0.mk hy746
              clear hy746
              have H' := Aside0.mk H
              clear H
              have p740 : 0 ≤ (x39_2 : Int) := of_decide_eq_true tW_
              have q740 : x39_2 < (((rd_T39 l0 a1_0).f2).length : Int) := of_decide_eq_true tW_
              obtain ⟨ad740, e740, hx740_0, hx740_1⟩ := at_T41 HR738_2.out x39_2 p740 q740
              cases e740
              replace hx740_0 := bc_ HB hx740_0
              replace hx740_1 := bc_ HB hx740_1
              replace p740 := eq_true p740
              replace q740 := eq_true q740
              try go_wp2_with (first | ((with_reducible refine gate_dst (N := 10) rfl ?_); (try (refine gate_guard (by rfl) ?_; dsimp only)); refine box_event ?hg (N := 10) ?hd (cs := #[.int .i64 0, .int .i64 0]) (t := 41) ?hr ?_; (case hd => rfl); (case hg => rfl); (case hr => first | (go_simp; done) | (go_simp; rfl)); intro gb741 hg w63 hbox hb; replace HO_738003 := Aside0.mk (Kd.R_below (dR_ HO_738003) hb); replace HO_738004 := Aside0.mk (Kd.R_below (dR_ HO_738004) hb); replace HO_738005 := Aside0.mk (Kd.R_below (dR_ HO_738005) hb); replace HO_738006 := Aside0.mk (Kd.R_below (dR_ HO_738006) hb); have BK741 := Aside0.mk (hbox); have GW741 := Aside0.mk ((dS_ hg (dL4_ HB GE716 GE717 GE737 GE739) : w.heap.size ≤ gb741)); have GE741 := Aside0.mk ((dS_ hg (dL4_ HB GE716 GE717 GE737 GE739) : w.heap.size ≤ gb741)); replace HB := Aside0.mk (below_step (dL4_ HB GE716 GE717 GE737 GE739) hb); have NB716_741 := Aside0.mk ((by rw [hg]; exact Nat.ne_of_lt (blk_lt (dB_ BK716)) : gb716 ≠ gb741)); have NB741_716 := Aside0.mk ((by rw [hg]; exact Nat.ne_of_gt (blk_lt (dB_ BK716)) : gb741 ≠ gb716)); replace BK716 := Aside0.mk (blk_below (g := gb716) (o := .cells #[.int .i64 a1_0, .int .i64 a1_1, .int .i64 a1_2, .slice A1_3 l1_3.length c1_3, .slice A1_4 l1_4.length c1_4, .slice A1_5 l1_5.length c1_5, .slice A1_6 l1_6.length c1_6, .int .i64 a1_7, .int .i64 a1_8, .bool a1_9] 25 (0, 0)) (dB_ BK716) hb); have NB717_741 := Aside0.mk ((by rw [hg]; exact Nat.ne_of_lt (blk_lt (dB_ BK717)) : gb717 ≠ gb741)); have NB741_717 := Aside0.mk ((by rw [hg]; exact Nat.ne_of_gt (blk_lt (dB_ BK717)) : gb741 ≠ gb717)); replace BK717 := Aside0.mk (blk_below (g := gb717) (o := .cells #[.int .i64 0, .int .i64 0, .int .i64 0, .slice none 0 0, .slice none 0 0, .slice none 0 0, .slice none 0 0, .int .i64 0, .int .i64 0, .bool false] 25 (0, 0)) (dB_ BK717) hb); have NB737_741 := Aside0.mk ((by rw [hg]; exact Nat.ne_of_lt (blk_lt (dB_ BK737)) : gb737 ≠ gb741)); have NB741_737 := Aside0.mk ((by rw [hg]; exact Nat.ne_of_gt (blk_lt (dB_ BK737)) : gb741 ≠ gb737)); replace BK737 := Aside0.mk (blk_below (g := gb737) (o := .cells #[.int .i64 t719, .int .i64 t720, .int .i64 t721, u738003, u738004, u738005, u738006, .int .i64 t734, .int .i64 t735, .bool t736] 25 (0, 0)) (dB_ BK737) hb); have NB739_741 := Aside0.mk ((by rw [hg]; exact Nat.ne_of_lt (blk_lt (dB_ BK739)) : gb739 ≠ gb741)); have NB741_739 := Aside0.mk ((by rw [hg]; exact Nat.ne_of_gt (blk_lt (dB_ BK739)) : gb741 ≠ gb739)); replace BK739 := Aside0.mk (blk_below (g := gb739) (o := .cells #[.string ((rd_T39 l0 a1_0).f0), .slice A738_1 ((rd_T39 l0 a1_0).f1).length c738_1, .slice (some ad740) ((rd_T39 l0 a1_0).f2).length c738_2] 39 (0, 0)) (dB_ BK739) hb); clear hb hbox hg; have hnb64 := NB741_716.out; have hnc64 := NB716_741.out; have hnb65 := NB741_717.out; have hnc65 := NB717_741.out; have hnb66 := NB741_737.out; have hnc66 := NB737_741.out; have hnb67 := NB741_739.out; have hnc67 := NB739_741.out; obtain ⟨hcz68_0, hcz68_1, hfz68_0, hfz68_1⟩ := cs2_ BK741.out))
              have n0_ : Aside0 (Kd.R (Kd.int .i64) 3 ((w63.setCell ⟨gb741, 0, none⟩ (.int .i64 ((rd_T41 ((rd_T39 l0 a1_0).f2) x39_2).f0))).setCell ⟨gb741, 1, none⟩ (.int .i64 ((rd_T41 ((rd_T39 l0 a1_0).f2) x39_2).f1))) w.heap.size (fun k_ => some k_ ≠ (u738004 : Value).ownBlock ∧ some k_ ≠ (u738005 : Value).ownBlock ∧ some k_ ≠ (u738006 : Value).ownBlock) u738003 x738003_2) := ⟨by (with_reducible repeat (first | apply Kd.R_alloc | apply Kd.R_drewN | apply Kd.R_drew)); exact Kd.R_mono (Kd.R_far (p := ⟨gb741, 1, none⟩) (Kd.R_far (p := ⟨gb741, 0, none⟩) (Kd.R_types HO_738003.out BK741.out (by decide)) (fun _ hk => hk.2) (.int .i64 ((rd_T41 ((rd_T39 l0 a1_0).f2) x39_2).f0))) (fun _ hk => hk.2) (.int .i64 ((rd_T41 ((rd_T39 l0 a1_0).f2) x39_2).f1))) (fun _ hk => ⟨hk.1.1, ⟨hk.1.2.1, hk.1.2.2⟩⟩)⟩
              have n1_ : Aside0 (Kd.R (Kd.int .i64) 3 ((w63.setCell ⟨gb741, 0, none⟩ (.int .i64 ((rd_T41 ((rd_T39 l0 a1_0).f2) x39_2).f0))).setCell ⟨gb741, 1, none⟩ (.int .i64 ((rd_T41 ((rd_T39 l0 a1_0).f2) x39_2).f1))) w.heap.size (fun k_ => some k_ ≠ (u738003 : Value).ownBlock ∧ some k_ ≠ (u738005 : Value).ownBlock ∧ some k_ ≠ (u738006 : Value).ownBlock) u738004 x738004_2) := ⟨by (with_reducible repeat (first | apply Kd.R_alloc | apply Kd.R_drewN | apply Kd.R_drew)); exact Kd.R_mono (Kd.R_far (p := ⟨gb741, 1, none⟩) (Kd.R_far (p := ⟨gb741, 0, none⟩) (Kd.R_types HO_738004.out BK741.out (by decide)) (fun _ hk => hk.2) (.int .i64 ((rd_T41 ((rd_T39 l0 a1_0).f2) x39_2).f0))) (fun _ hk => hk.2) (.int .i64 ((rd_T41 ((rd_T39 l0 a1_0).f2) x39_2).f1))) (fun _ hk => ⟨hk.1.1, ⟨hk.1.2.1, hk.1.2.2⟩⟩)⟩
              have n2_ : Aside0 (Kd.R (Kd.int .i64) 3 ((w63.setCell ⟨gb741, 0, none⟩ (.int .i64 ((rd_T41 ((rd_T39 l0 a1_0).f2) x39_2).f0))).setCell ⟨gb741, 1, none⟩ (.int .i64 ((rd_T41 ((rd_T39 l0 a1_0).f2) x39_2).f1))) w.heap.size (fun k_ => some k_ ≠ (u738003 : Value).ownBlock ∧ some k_ ≠ (u738004 : Value).ownBlock ∧ some k_ ≠ (u738006 : Value).ownBlock) u738005 x738005_2) := ⟨by (with_reducible repeat (first | apply Kd.R_alloc | apply Kd.R_drewN | apply Kd.R_drew)); exact Kd.R_mono (Kd.R_far (p := ⟨gb741, 1, none⟩) (Kd.R_far (p := ⟨gb741, 0, none⟩) (Kd.R_types HO_738005.out BK741.out (by decide)) (fun _ hk => hk.2) (.int .i64 ((rd_T41 ((rd_T39 l0 a1_0).f2) x39_2).f0))) (fun _ hk => hk.2) (.int .i64 ((rd_T41 ((rd_T39 l0 a1_0).f2) x39_2).f1))) (fun _ hk => ⟨hk.1.1, ⟨hk.1.2.1, hk.1.2.2⟩⟩)⟩
              have n3_ : Aside0 (Kd.R (Kd.int .i64) 3 ((w63.setCell ⟨gb741, 0, none⟩ (.int .i64 ((rd_T41 ((rd_T39 l0 a1_0).f2) x39_2).f0))).setCell ⟨gb741, 1, none⟩ (.int .i64 ((rd_T41 ((rd_T39 l0 a1_0).f2) x39_2).f1))) w.heap.size (fun k_ => some k_ ≠ (u738003 : Value).ownBlock ∧ some k_ ≠ (u738004 : Value).ownBlock ∧ some k_ ≠ (u738005 : Value).ownBlock) u738006 x738006_2) := ⟨by (with_reducible repeat (first | apply Kd.R_alloc | apply Kd.R_drewN | apply Kd.R_drew)); exact Kd.R_mono (Kd.R_far (p := ⟨gb741, 1, none⟩) (Kd.R_far (p := ⟨gb741, 0, none⟩) (Kd.R_types HO_738006.out BK741.out (by decide)) (fun _ hk => hk.2) (.int .i64 ((rd_T41 ((rd_T39 l0 a1_0).f2) x39_2).f0))) (fun _ hk => hk.2) (.int .i64 ((rd_T41 ((rd_T39 l0 a1_0).f2) x39_2).f1))) (fun _ hk => ⟨hk.1.1, ⟨hk.1.2.1, hk.1.2.2⟩⟩)⟩
              have n4_ : Aside0 (((w63.setCell ⟨gb741, 0, none⟩ (.int .i64 ((rd_T41 ((rd_T39 l0 a1_0).f2) x39_2).f0))).setCell ⟨gb741, 1, none⟩ (.int .i64 ((rd_T41 ((rd_T39 l0 a1_0).f2) x39_2).f1))).heap[gb716]? = some (.cells #[.int .i64 a1_0, .int .i64 a1_1, .int .i64 a1_2, .slice A1_3 l1_3.length c1_3, .slice A1_4 l1_4.length c1_4, .slice A1_5 l1_5.length c1_5, .slice A1_6 l1_6.length c1_6, .int .i64 a1_7, .int .i64 a1_8, .bool a1_9] 25 (0, 0))) := ⟨by (with_reducible repeat (first | refine blk_drewN ?_ _ | refine blk_drew ?_ | refine blk_alloc ?_ _)); refine blk_far ?_ NB716_741.out _; (with_reducible repeat (first | refine blk_drewN ?_ _ | refine blk_drew ?_ | refine blk_alloc ?_ _)); refine blk_far ?_ NB716_741.out _; (with_reducible repeat (first | refine blk_drewN ?_ _ | refine blk_drew ?_ | refine blk_alloc ?_ _)); exact BK716.out⟩
              have n5_ : Aside0 (((w63.setCell ⟨gb741, 0, none⟩ (.int .i64 ((rd_T41 ((rd_T39 l0 a1_0).f2) x39_2).f0))).setCell ⟨gb741, 1, none⟩ (.int .i64 ((rd_T41 ((rd_T39 l0 a1_0).f2) x39_2).f1))).heap[gb717]? = some (.cells #[.int .i64 0, .int .i64 0, .int .i64 0, .slice none 0 0, .slice none 0 0, .slice none 0 0, .slice none 0 0, .int .i64 0, .int .i64 0, .bool false] 25 (0, 0))) := ⟨by (with_reducible repeat (first | refine blk_drewN ?_ _ | refine blk_drew ?_ | refine blk_alloc ?_ _)); refine blk_far ?_ NB717_741.out _; (with_reducible repeat (first | refine blk_drewN ?_ _ | refine blk_drew ?_ | refine blk_alloc ?_ _)); refine blk_far ?_ NB717_741.out _; (with_reducible repeat (first | refine blk_drewN ?_ _ | refine blk_drew ?_ | refine blk_alloc ?_ _)); exact BK717.out⟩
              have n6_ : Aside0 (((w63.setCell ⟨gb741, 0, none⟩ (.int .i64 ((rd_T41 ((rd_T39 l0 a1_0).f2) x39_2).f0))).setCell ⟨gb741, 1, none⟩ (.int .i64 ((rd_T41 ((rd_T39 l0 a1_0).f2) x39_2).f1))).heap[gb737]? = some (.cells #[.int .i64 t719, .int .i64 t720, .int .i64 t721, u738003, u738004, u738005, u738006, .int .i64 t734, .int .i64 t735, .bool t736] 25 (0, 0))) := ⟨by (with_reducible repeat (first | refine blk_drewN ?_ _ | refine blk_drew ?_ | refine blk_alloc ?_ _)); refine blk_far ?_ NB737_741.out _; (with_reducible repeat (first | refine blk_drewN ?_ _ | refine blk_drew ?_ | refine blk_alloc ?_ _)); refine blk_far ?_ NB737_741.out _; (with_reducible repeat (first | refine blk_drewN ?_ _ | refine blk_drew ?_ | refine blk_alloc ?_ _)); exact BK737.out⟩
              have n7_ : Aside0 (((w63.setCell ⟨gb741, 0, none⟩ (.int .i64 ((rd_T41 ((rd_T39 l0 a1_0).f2) x39_2).f0))).setCell ⟨gb741, 1, none⟩ (.int .i64 ((rd_T41 ((rd_T39 l0 a1_0).f2) x39_2).f1))).heap[gb739]? = some (.cells #[.string ((rd_T39 l0 a1_0).f0), .slice A738_1 ((rd_T39 l0 a1_0).f1).length c738_1, .slice (some ad740) ((rd_T39 l0 a1_0).f2).length c738_2] 39 (0, 0))) := ⟨by (with_reducible repeat (first | refine blk_drewN ?_ _ | refine blk_drew ?_ | refine blk_alloc ?_ _)); refine blk_far ?_ NB739_741.out _; (with_reducible repeat (first | refine blk_drewN ?_ _ | refine blk_drew ?_ | refine blk_alloc ?_ _)); refine blk_far ?_ NB739_741.out _; (with_reducible repeat (first | refine blk_drewN ?_ _ | refine blk_drew ?_ | refine blk_alloc ?_ _)); exact BK739.out⟩
              have n8_ : Aside0 (((w63.setCell ⟨gb741, 0, none⟩ (.int .i64 ((rd_T41 ((rd_T39 l0 a1_0).f2) x39_2).f0))).setCell ⟨gb741, 1, none⟩ (.int .i64 ((rd_T41 ((rd_T39 l0 a1_0).f2) x39_2).f1))).heap[gb741]? = some (.cells #[.int .i64 ((rd_T41 ((rd_T39 l0 a1_0).f2) x39_2).f0), .int .i64 ((rd_T41 ((rd_T39 l0 a1_0).f2) x39_2).f1)] 41 (0, 0))) := ⟨by (with_reducible repeat (first | refine blk_drewN ?_ _ | refine blk_drew ?_ | refine blk_alloc ?_ _)); refine blk_put (cs := #[.int .i64 ((rd_T41 ((rd_T39 l0 a1_0).f2) x39_2).f0), .int .i64 0]) ?_ 1 _ rfl; (with_reducible repeat (first | refine blk_drewN ?_ _ | refine blk_drew ?_ | refine blk_alloc ?_ _)); refine blk_put (cs := #[.int .i64 0, .int .i64 0]) ?_ 0 _ rfl; (with_reducible repeat (first | refine blk_drewN ?_ _ | refine blk_drew ?_ | refine blk_alloc ?_ _)); exact BK741.out⟩
              have n9_ : Aside0 (Below w.heap.size w ((w63.setCell ⟨gb741, 0, none⟩ (.int .i64 ((rd_T41 ((rd_T39 l0 a1_0).f2) x39_2).f0))).setCell ⟨gb741, 1, none⟩ (.int .i64 ((rd_T41 ((rd_T39 l0 a1_0).f2) x39_2).f1)))) := ⟨by repeat (first | (with_reducible first | exact HB.out | apply below_alloc | apply pw_below_drewN | apply below_drew1 | refine below_set ?_ GE716.out | refine below_set ?_ GE717.out | refine below_set ?_ GE737.out | refine below_set ?_ GE739.out | refine below_set ?_ GE741.out) | exact HB.out)⟩
              (try clear HO_738003)
              (try clear HO_738004)
              (try clear HO_738005)
              (try clear HO_738006)
              (try clear BK716)
              (try clear BK717)
              (try clear BK737)
              (try clear BK739)
              (try clear BK741)
              (try clear HB)
              generalize ((w63.setCell ⟨gb741, 0, none⟩ (.int .i64 ((rd_T41 ((rd_T39 l0 a1_0).f2) x39_2).f0))).setCell ⟨gb741, 1, none⟩ (.int .i64 ((rd_T41 ((rd_T39 l0 a1_0).f2) x39_2).f1))) = w69 at n0_ n1_ n2_ n3_ n4_ n5_ n6_ n7_ n8_ n9_ ⊢
              have HO_738003 := n0_
              have HO_738004 := n1_
              have HO_738005 := n2_
              have HO_738006 := n3_
              have BK716 := n4_
              have BK717 := n5_
              have BK737 := n6_
              have BK739 := n7_
              have BK741 := n8_
              have HB := n9_
              clear n0_ n1_ n2_ n3_ n4_ n5_ n6_ n7_ n8_ n9_
              replace HO_738003 := Aside0.mk (Kd.R_drew HO_738003.out)
              replace HO_738004 := Aside0.mk (Kd.R_drew HO_738004.out)
              replace HO_738005 := Aside0.mk (Kd.R_drew HO_738005.out)
              replace HO_738006 := Aside0.mk (Kd.R_drew HO_738006.out)
              replace BK716 := Aside0.mk (blk_drew BK716.out)
              replace BK717 := Aside0.mk (blk_drew BK717.out)
              replace BK737 := Aside0.mk (blk_drew BK737.out)
              replace BK739 := Aside0.mk (blk_drew BK739.out)
              replace BK741 := Aside0.mk (blk_drew BK741.out)
              replace HB := Aside0.mk (below_drew1 HB.out)
              obtain ⟨Ao71, co71, eo71⟩ := Kd.R_slice HO_738003.out
              (first | subst eo71 | (injection eo71 with f1_ f2_ f3_; have f4_ := f1_.symm; have f5_ := f3_.symm; clear f1_ f2_ f3_; subst f4_; subst f5_))
              have p742 : 0 ≤ (x39_2 : Int) := of_decide_eq_true tW_
              have q742 : x39_2 < (x738003_2.length : Int) := of_decide_eq_true tW_
              obtain ⟨ad742, e742, hx742_0⟩ := Kd.at_int (Kd.R_reads' HO_738003.out).2.2 x39_2 p742 q742
              cases e742
              replace p742 := eq_true p742
              replace q742 := eq_true q742
              refine start_ (n := 14) (S := fun w' => w'.cell? ⟨gb741, 0, none⟩ = some (.int .i64 ((rd_T41 ((rd_T39 l0 a1_0).f2) x39_2).f0)) ∧ w'.cell? ⟨gb741, 1, none⟩ = some (.int .i64 ((rd_T41 ((rd_T39 l0 a1_0).f2) x39_2).f1)) ∧ w'.cell? ⟨gb716, 0, none⟩ = some (.int .i64 a1_0) ∧ w'.cell? ⟨gb716, 1, none⟩ = some (.int .i64 a1_1) ∧ w'.cell? ⟨gb716, 2, none⟩ = some (.int .i64 a1_2) ∧ w'.cell? ⟨gb716, 3, none⟩ = some (.slice A1_3 l1_3.length c1_3) ∧ w'.cell? ⟨gb716, 4, none⟩ = some (.slice A1_4 l1_4.length c1_4) ∧ w'.cell? ⟨gb716, 5, none⟩ = some (.slice A1_5 l1_5.length c1_5) ∧ w'.cell? ⟨gb716, 6, none⟩ = some (.slice A1_6 l1_6.length c1_6) ∧ w'.cell? ⟨gb716, 7, none⟩ = some (.int .i64 a1_7) ∧ w'.cell? ⟨gb716, 8, none⟩ = some (.int .i64 a1_8) ∧ w'.cell? ⟨gb716, 9, none⟩ = some (.bool a1_9) ∧ w'.cell? ⟨gb737, 0, none⟩ = some (.int .i64 t719) ∧ w'.cell? ⟨gb737, 1, none⟩ = some (.int .i64 t720) ∧ w'.cell? ⟨gb737, 2, none⟩ = some (.int .i64 t721) ∧ w'.cell? ⟨gb737, 3, none⟩ = some (.slice (some ad742) x738003_2.length co71) ∧ w'.cell? ⟨gb737, 4, none⟩ = some (u738004) ∧ w'.cell? ⟨gb737, 5, none⟩ = some (u738005) ∧ w'.cell? ⟨gb737, 6, none⟩ = some (u738006) ∧ w'.cell? ⟨gb737, 7, none⟩ = some (.int .i64 t734) ∧ w'.cell? ⟨gb737, 8, none⟩ = some (.int .i64 t735) ∧ w'.cell? ⟨gb737, 9, none⟩ = some (.bool t736) ∧ w'.cell? (ad742.add (x39_2).toNat) = some (.int .i64 (rd x738003_2 x39_2))) (ds := []) #[false, false, false, false, false, false, false, false, false, false, false, false, false, false] (by kernel_rfl) rfl rfl ⟨(blk_cell BK741.out 0).trans rfl, (blk_cell BK741.out 1).trans rfl, (blk_cell BK716.out 0).trans rfl, (blk_cell BK716.out 1).trans rfl, (blk_cell BK716.out 2).trans rfl, (blk_cell BK716.out 3).trans rfl, (blk_cell BK716.out 4).trans rfl, (blk_cell BK716.out 5).trans rfl, (blk_cell BK716.out 6).trans rfl, (blk_cell BK716.out 7).trans rfl, (blk_cell BK716.out 8).trans rfl, (blk_cell BK716.out 9).trans rfl, (blk_cell BK737.out 0).trans rfl, (blk_cell BK737.out 1).trans rfl, (blk_cell BK737.out 2).trans rfl, (blk_cell BK737.out 3).trans rfl, (blk_cell BK737.out 4).trans rfl, (blk_cell BK737.out 5).trans rfl, (blk_cell BK737.out 6).trans rfl, (blk_cell BK737.out 7).trans rfl, (blk_cell BK737.out 8).trans rfl, (blk_cell BK737.out 9).trans rfl, hx742_0⟩ (fun hHeld => ?_); refine with_tabW plant_Work.tab11 plant_Work.bits11 (fun HT_ HW_ => ?_)
              generalize w69.drew = w70 at HO_738003 HO_738004 HO_738005 HO_738006 BK716 BK717 BK737 BK739 BK741 HB hx742_0 hHeld ⊢
              refine pure_ (i := 0) (N := some 44) (v := ?_) (a' := ?_) (bA 1 14) rfl rfl (any_of HT_.out (by kernel_rfl)) (fun _ _ _ h => h) (Or.inl ⟨by rfl, ?_⟩) ?_ ?_; rotate_left; (intro w'; go_simp; with_reducible rfl); rotate_left; (simp only [Act.put, sI_, s0_, sS_, i64_w, i32_w]; rfl)
              refine pure_ (i := 2) (N := some 46) (v := ?_) (a' := ?_) #[true, false, true, false, false, false, false, false, false, false, false, false, false, false] rfl rfl (any_of HT_.out (by kernel_rfl)) (fun _ _ _ h => h) (Or.inl ⟨by rfl, ?_⟩) ?_ ?_; rotate_left; (intro w'; go_simp; with_reducible rfl); rotate_left; (simp only [Act.put, sI_, s0_, sS_, i64_w, i32_w]; rfl)
              refine pure_ (i := 6) (N := some 50) (v := ?_) (a' := ?_) #[true, false, true, false, false, false, true, false, false, false, false, false, false, false] rfl rfl (any_of HT_.out (by kernel_rfl)) (fun _ _ _ h => h) (Or.inl ⟨by rfl, ?_⟩) ?_ ?_; rotate_left; (intro w'; go_simp; with_reducible rfl); rotate_left; (simp only [Act.put, sI_, s0_, sS_, i64_w, i32_w]; rfl)
              refine pure_ (i := 8) (N := some 52) (v := ?_) (a' := ?_) #[true, false, true, false, false, false, true, false, true, false, false, false, false, false] rfl rfl (any_of HT_.out (by kernel_rfl)) (fun _ _ _ h => h) (Or.inl ⟨by rfl, ?_⟩) ?_ ?_; rotate_left; (intro w'; go_simp; with_reducible rfl); rotate_left; (simp only [Act.put, sI_, s0_, sS_, i64_w, i32_w]; rfl)
              refine take_ (i := 1) (N := some 45) (v := ?_) (a' := ?_) #[true, true, true, false, false, false, true, false, true, false, false, false, false, false] rfl rfl (take_ofW HT_.out HW_.out (by kernel_rfl)) (fun _ _ _ h => h) (Or.inl ⟨by rfl, ?_⟩) hHeld ?_ ?_; rotate_left; (rintro w' ⟨s0, s1, s2, s3, s4, s5, s6, s7, s8, s9, s10, s11, s12, s13, s14, s15, s16, s17, s18, s19, s20, s21, s22⟩; go_simp; with_reducible rfl); rotate_left; (simp only [Act.put, sI_, s0_, sS_, i64_w, i32_w]; rfl)
              refine take_ (i := 3) (N := some 47) (v := ?_) (a' := ?_) #[true, true, true, true, false, false, true, false, true, false, false, false, false, false] rfl rfl (take_ofW HT_.out HW_.out (by kernel_rfl)) (fun _ _ _ h => h) (Or.inl ⟨by rfl, ?_⟩) hHeld ?_ ?_; rotate_left; (rintro w' ⟨s0, s1, s2, s3, s4, s5, s6, s7, s8, s9, s10, s11, s12, s13, s14, s15, s16, s17, s18, s19, s20, s21, s22⟩; go_simp; with_reducible rfl); rotate_left; (simp only [Act.put, sI_, s0_, sS_, i64_w, i32_w]; rfl)
              refine pure_ (i := 4) (N := some 48) (v := ?_) (a' := ?_) #[true, true, true, true, true, false, true, false, true, false, false, false, false, false] rfl rfl (any_of HT_.out (by kernel_rfl)) (fun _ _ _ h => h) (Or.inl ⟨by rfl, ?_⟩) ?_ ?_; rotate_left; (intro w'; go_simp; with_reducible rfl); rotate_left; (simp only [Act.put, sI_, s0_, sS_, i64_w, i32_w]; rfl)
              refine pure_ (i := 5) (N := some 49) (v := ?_) (a' := ?_) #[true, true, true, true, true, true, true, false, true, false, false, false, false, false] rfl rfl (any_of HT_.out (by kernel_rfl)) (fun _ _ _ h => h) (Or.inl ⟨by rfl, ?_⟩) ?_ ?_; rotate_left; (intro w'; go_simp; with_reducible rfl); rotate_left; (simp only [Act.put, sI_, s0_, sS_, i64_w, i32_w]; rfl)
              refine take_ (i := 7) (N := some 51) (v := ?_) (a' := ?_) (bA 9 14) rfl rfl (take_ofW HT_.out HW_.out (by kernel_rfl)) (fun _ _ _ h => h) (Or.inl ⟨by rfl, ?_⟩) hHeld ?_ ?_; rotate_left; (rintro w' ⟨s0, s1, s2, s3, s4, s5, s6, s7, s8, s9, s10, s11, s12, s13, s14, s15, s16, s17, s18, s19, s20, s21, s22⟩; go_simp; with_reducible rfl); rotate_left; (simp only [Act.put, sI_, s0_, sS_, i64_w, i32_w]; rfl)
              refine pure_ (i := 9) (N := some 53) (v := ?_) (a' := ?_) (bA 10 14) rfl rfl (any_of HT_.out (by kernel_rfl)) (fun _ _ _ h => h) (Or.inl ⟨by rfl, ?_⟩) ?_ ?_; rotate_left; (intro w'; go_simp; with_reducible rfl); rotate_left; (simp only [Act.put, sI_, s0_, sS_, i64_w, i32_w]; rfl)
              refine take_ (i := 10) (N := some 54) (v := ?_) (a' := ?_) (bA 11 14) rfl rfl (take_ofW HT_.out HW_.out (by kernel_rfl)) (fun _ _ _ h => h) (Or.inl ⟨by rfl, ?_⟩) hHeld ?_ ?_; rotate_left; (rintro w' ⟨s0, s1, s2, s3, s4, s5, s6, s7, s8, s9, s10, s11, s12, s13, s14, s15, s16, s17, s18, s19, s20, s21, s22⟩; go_simp; with_reducible rfl); rotate_left; (simp only [Act.put, sI_, s0_, sS_, i64_w, i32_w]; rfl)
              refine pure_ (i := 11) (N := some 55) (v := ?_) (a' := ?_) (bA 12 14) rfl rfl (any_of HT_.out (by kernel_rfl)) (fun _ _ _ h => h) (Or.inl ⟨by rfl, ?_⟩) ?_ ?_; rotate_left; (intro w'; go_simp; with_reducible rfl); rotate_left; (simp only [Act.put, sI_, s0_, sS_, i64_w, i32_w]; rfl)
              refine pure_ (i := 12) (N := some 56) (v := ?_) (a' := ?_) (bA 13 14) rfl rfl (any_of HT_.out (by kernel_rfl)) (fun _ _ _ h => h) (Or.inl ⟨by rfl, ?_⟩) ?_ ?_; rotate_left; (intro w'; go_simp; with_reducible rfl); rotate_left; (simp only [Act.put, sI_, s0_, sS_, i64_w, i32_w]; rfl)
              refine pure_ (i := 13) (N := some 11) (v := ?_) (a' := ?_) (bA 14 14) rfl rfl (any_of HT_.out (by kernel_rfl)) (fun _ _ _ h => h) (Or.inl ⟨by rfl, ?_⟩) ?_ ?_; rotate_left; (intro w'; go_simp; with_reducible rfl); rotate_left; (simp only [Act.put, sI_, s0_, sS_, i64_w, i32_w]; rfl)
              refine done_ (done_of HT_.out (by kernel_rfl)) ?_
              have hnb72 := NB737_716.out
              have hnc72 := NB716_737.out
              have hnb73 := NB737_717.out
              have hnc73 := NB717_737.out
              have hnb74 := NB737_739.out
              have hnc74 := NB739_737.out
              obtain ⟨hcz75_0, hcz75_1, hcz75_2, hcz75_3, hcz75_4, hcz75_5, hcz75_6, hcz75_7, hcz75_8, hcz75_9, hfz75_0, hfz75_1, hfz75_2, hfz75_3, hfz75_4, hfz75_5, hfz75_6, hfz75_7, hfz75_8, hfz75_9⟩ := cs10_ BK737.out
              have p743 : 0 ≤ (x39_2 : Int) := of_decide_eq_true tW_
              have q743 : x39_2 < (x738003_2.length : Int) := of_decide_eq_true tW_
              obtain ⟨ad743, e743, hx743_0⟩ := Kd.at_int (Kd.R_reads' HO_738003.out).2.2 x39_2 p743 q743
              obtain rfl : ad742 = ad743 := (by injection e743)
              replace p743 := eq_true p743
              replace q743 := eq_true q743
              have p59 : 0 ≤ (x39_2 : Int) := of_decide_eq_true tW_
              have q59 : (x39_2 : Int) < ((x738003_2.length : Int) : Int) := of_decide_eq_true tW_
              obtain ⟨go59, co59, eo59, gb59, gl59, cl59, HG59⟩ := Kd.R_form HO_738003.out (by omega)
              (first | cases eo59 | (injection eo59 with ea_ en_ ec_; (first | subst ea_ | (injection ea_ with ea_; subst ea_)); subst ec_; clear en_))
              have GB59 := Aside0.mk gb59
              have GG59 := Aside0.mk HG59
              clear gb59 gl59 HG59
              (first | simp only [add_plain] at hx742_0 | skip)
              (first | simp only [add_plain] at hx743_0 | skip)
              obtain ⟨hx59_0, hf59_0⟩ := Kd.R_celln 0 HO_738003.out (x39_2 : Int) p59 q59
              replace p59 := eq_true p59
              replace q59 := eq_true q59
              obtain ⟨hy76_, hz76_⟩ := Kd.R_celln 0 HO_738003.out (x39_2 : Int) (of_decide_eq_true tW_) (of_decide_eq_true tW_)
              have HP76 := Kd.R_putg HO_738003.out (x39_2 : Int) (wrap64 ((rd x738003_2 x39_2) + (ji58)))
              try go_wp2_with (first | ((with_reducible refine gate_store (t := 3) (p := 64) rfl ?_); refine store_event (t := 3) (p := 64) (v := ?vo_w77) (w1 := (w70.setCell ⟨go59, (x39_2 : Int).toNat, none⟩ (.int .i64 (wrap64 ((rd x738003_2 x39_2) + (ji58)))))) ?hg ?ho ?hn ?hr ?_; (case ho => rfl); (case hg => rfl); (case hn => rfl); (case hr => first | (go_simp; done) | (go_simp; rfl)); intro w77 hw; have hg : w70.grownBy w77 (some go59) := (by rw [hw]; exact HP76.2); have hp_ : Kd.R (Kd.int .i64) 3 w77 w.heap.size (fun k_ => some k_ ≠ (u738004 : Value).ownBlock ∧ some k_ ≠ (u738005 : Value).ownBlock ∧ some k_ ≠ (u738006 : Value).ownBlock) (.slice (some ⟨go59, 0, none⟩) x738003_2.length co71) y744 := (by rw [hw, Ny744.out]; exact HP76.1); clear HP76; replace HO_738004 := Aside0.mk (Kd.R_after (v := (.slice (some ⟨go59, 0, none⟩) x738003_2.length co71)) (v1 := (.slice (some ⟨go59, 0, none⟩) x738003_2.length co71)) (ok := (fun k_ => some k_ ≠ (u738005 : Value).ownBlock ∧ some k_ ≠ (u738006 : Value).ownBlock)) (by (with_reducible repeat (first | apply Kd.R_alloc | apply Kd.R_drewN | apply Kd.R_drew)); exact Kd.R_mono HO_738004.out (fun _ hk => ⟨⟨hk.2.1, hk.2.2⟩, hk.1⟩)) hg (.inl rfl)); replace HO_738005 := Aside0.mk (Kd.R_after (v := (.slice (some ⟨go59, 0, none⟩) x738003_2.length co71)) (v1 := (.slice (some ⟨go59, 0, none⟩) x738003_2.length co71)) (ok := (fun k_ => some k_ ≠ (u738004 : Value).ownBlock ∧ some k_ ≠ (u738006 : Value).ownBlock)) (by (with_reducible repeat (first | apply Kd.R_alloc | apply Kd.R_drewN | apply Kd.R_drew)); exact Kd.R_mono HO_738005.out (fun _ hk => ⟨⟨hk.2.1, hk.2.2⟩, hk.1⟩)) hg (.inl rfl)); replace HO_738006 := Aside0.mk (Kd.R_after (v := (.slice (some ⟨go59, 0, none⟩) x738003_2.length co71)) (v1 := (.slice (some ⟨go59, 0, none⟩) x738003_2.length co71)) (ok := (fun k_ => some k_ ≠ (u738004 : Value).ownBlock ∧ some k_ ≠ (u738005 : Value).ownBlock)) (by (with_reducible repeat (first | apply Kd.R_alloc | apply Kd.R_drewN | apply Kd.R_drew)); exact Kd.R_mono HO_738006.out (fun _ hk => ⟨⟨hk.2.1, hk.2.2⟩, hk.1⟩)) hg (.inl rfl)); replace BK716 := Aside0.mk (blk_grown (g := gb716) (o := .cells #[.int .i64 a1_0, .int .i64 a1_1, .int .i64 a1_2, .slice A1_3 l1_3.length c1_3, .slice A1_4 l1_4.length c1_4, .slice A1_5 l1_5.length c1_5, .slice A1_6 l1_6.length c1_6, .int .i64 a1_7, .int .i64 a1_8, .bool a1_9] 25 (0, 0)) (dB_ BK716) hg (Kd.R_ne HO_738003.out BK716.out (by decide))); replace BK717 := Aside0.mk (blk_grown (g := gb717) (o := .cells #[.int .i64 0, .int .i64 0, .int .i64 0, .slice none 0 0, .slice none 0 0, .slice none 0 0, .slice none 0 0, .int .i64 0, .int .i64 0, .bool false] 25 (0, 0)) (dB_ BK717) hg (Kd.R_ne HO_738003.out BK717.out (by decide))); replace BK737 := Aside0.mk (blk_grown (g := gb737) (o := .cells #[.int .i64 t719, .int .i64 t720, .int .i64 t721, .slice (some ⟨go59, 0, none⟩) x738003_2.length co71, u738004, u738005, u738006, .int .i64 t734, .int .i64 t735, .bool t736] 25 (0, 0)) (dB_ BK737) hg (Kd.R_ne HO_738003.out BK737.out (by decide))); replace BK739 := Aside0.mk (blk_grown (g := gb739) (o := .cells #[.string ((rd_T39 l0 a1_0).f0), .slice A738_1 ((rd_T39 l0 a1_0).f1).length c738_1, .slice (some ad740) ((rd_T39 l0 a1_0).f2).length c738_2] 39 (0, 0)) (dB_ BK739) hg (Kd.R_ne HO_738003.out BK739.out (by decide))); replace BK741 := Aside0.mk (blk_grown (g := gb741) (o := .cells #[.int .i64 ((rd_T41 ((rd_T39 l0 a1_0).f2) x39_2).f0), .int .i64 ((rd_T41 ((rd_T39 l0 a1_0).f2) x39_2).f1)] 41 (0, 0)) (dB_ BK741) hg (Kd.R_ne HO_738003.out BK741.out (by decide))); replace HO_738003 := Aside0.mk (hp_); replace HB := Aside0.mk ((by rw [hw]; exact below_set (HB.out) GB59.out : Below w.heap.size w w77)); clear hg hw hp_))
              replace HO_738003 := Aside0.mk (Kd.R_drew HO_738003.out)
              replace HO_738004 := Aside0.mk (Kd.R_drew HO_738004.out)
              replace HO_738005 := Aside0.mk (Kd.R_drew HO_738005.out)
              replace HO_738006 := Aside0.mk (Kd.R_drew HO_738006.out)
              replace BK716 := Aside0.mk (blk_drew BK716.out)
              replace BK717 := Aside0.mk (blk_drew BK717.out)
              replace BK737 := Aside0.mk (blk_drew BK737.out)
              replace BK739 := Aside0.mk (blk_drew BK739.out)
              replace BK741 := Aside0.mk (blk_drew BK741.out)
              replace HB := Aside0.mk (below_drew1 HB.out)
              obtain ⟨Ao79, co79, eo79⟩ := Kd.R_slice HO_738005.out
              (first | subst eo79 | (injection eo79 with f1_ f2_ f3_; have f4_ := f1_.symm; have f5_ := f3_.symm; clear f1_ f2_ f3_; subst f4_; subst f5_))
              have p745 : 0 ≤ (x39_2 : Int) := of_decide_eq_true tW_
              have q745 : x39_2 < (x738005_2.length : Int) := of_decide_eq_true tW_
              obtain ⟨ad745, e745, hx745_0⟩ := Kd.at_int (Kd.R_reads' HO_738005.out).2.2 x39_2 p745 q745
              cases e745
              replace p745 := eq_true p745
              replace q745 := eq_true q745
              have p62 : 0 ≤ (x39_2 : Int) := of_decide_eq_true tW_
              have q62 : (x39_2 : Int) < ((x738005_2.length : Int) : Int) := of_decide_eq_true tW_
              obtain ⟨go62, co62, eo62, gb62, gl62, cl62, HG62⟩ := Kd.R_form HO_738005.out (by omega)
              (first | cases eo62 | (injection eo62 with ea_ en_ ec_; (first | subst ea_ | (injection ea_ with ea_; subst ea_)); subst ec_; clear en_))
              have GB62 := Aside0.mk gb62
              have GG62 := Aside0.mk HG62
              clear gb62 gl62 HG62
              (first | simp only [add_plain] at hx745_0 | skip)
              obtain ⟨hx62_0, hf62_0⟩ := Kd.R_celln 0 HO_738005.out (x39_2 : Int) p62 q62
              replace p62 := eq_true p62
              replace q62 := eq_true q62
              have HP80 := Kd.R_putn HO_738005.out (x39_2 : Int) ji61
              rw [← Ny746.out] at HP80
              have HQ80 := Aside0.mk HP80
              clear HP80
              refine start_ (n := 13) (S := fun w' => w'.cell? ⟨gb737, 0, none⟩ = some (.int .i64 t719) ∧ w'.cell? ⟨gb737, 1, none⟩ = some (.int .i64 t720) ∧ w'.cell? ⟨gb737, 2, none⟩ = some (.int .i64 t721) ∧ w'.cell? ⟨gb737, 3, none⟩ = some (.slice (some ⟨go59, 0, none⟩) x738003_2.length co71) ∧ w'.cell? ⟨gb737, 4, none⟩ = some (u738004) ∧ w'.cell? ⟨gb737, 5, none⟩ = some (.slice (some ⟨go62, 0, none⟩) x738005_2.length co79) ∧ w'.cell? ⟨gb737, 6, none⟩ = some (u738006) ∧ w'.cell? ⟨gb737, 7, none⟩ = some (.int .i64 t734) ∧ w'.cell? ⟨gb737, 8, none⟩ = some (.int .i64 t735) ∧ w'.cell? ⟨gb737, 9, none⟩ = some (.bool t736) ∧ w'.cell? ⟨go62, (x39_2).toNat, none⟩ = some (.int .i64 (rd x738005_2 x39_2))) (ds := [12]) #[false, false, false, false, false, false, false, false, false, false, false, false, false] (by kernel_rfl) rfl rfl ⟨(blk_cell BK737.out 0).trans rfl, (blk_cell BK737.out 1).trans rfl, (blk_cell BK737.out 2).trans rfl, (blk_cell BK737.out 3).trans rfl, (blk_cell BK737.out 4).trans rfl, (blk_cell BK737.out 5).trans rfl, (blk_cell BK737.out 6).trans rfl, (blk_cell BK737.out 7).trans rfl, (blk_cell BK737.out 8).trans rfl, (blk_cell BK737.out 9).trans rfl, hx745_0⟩ (fun hHeld => ?_); refine with_tabW plant_Work.tab13 plant_Work.bits13 (fun HT_ HW_ => ?_)
              generalize w77.drew = w78 at HO_738003 HO_738004 HO_738005 HO_738006 BK716 BK717 BK737 BK739 BK741 HB GG62 HQ80 hf62_0 hx62_0 hx745_0 hHeld ⊢
              refine pure_ (i := 0) (N := some 65) (v := ?_) (a' := ?_) (bA 1 13) rfl rfl (any_of HT_.out (by kernel_rfl)) (fun _ _ _ h => h) (Or.inl ⟨by rfl, ?_⟩) ?_ ?_; rotate_left; (intro w'; go_simp; with_reducible rfl); rotate_left; (simp only [Act.put, sI_, s0_, sS_, i64_w, i32_w]; rfl)
              refine pure_ (i := 2) (N := some 67) (v := ?_) (a' := ?_) #[true, false, true, false, false, false, false, false, false, false, false, false, false] rfl rfl (any_of HT_.out (by kernel_rfl)) (fun _ _ _ h => h) (Or.inl ⟨by rfl, ?_⟩) ?_ ?_; rotate_left; (intro w'; go_simp; with_reducible rfl); rotate_left; (simp only [Act.put, sI_, s0_, sS_, i64_w, i32_w]; rfl)
              refine pure_ (i := 3) (N := some 68) (v := ?_) (a' := ?_) #[true, false, true, true, false, false, false, false, false, false, false, false, false] rfl rfl (any_of HT_.out (by kernel_rfl)) (fun _ _ _ h => h) (Or.inl ⟨by rfl, ?_⟩) ?_ ?_; rotate_left; (intro w'; go_simp; with_reducible rfl); rotate_left; (simp only [Act.put, sI_, s0_, sS_, i64_w, i32_w]; rfl)
              refine pure_ (i := 5) (N := some 70) (v := ?_) (a' := ?_) #[true, false, true, true, false, true, false, false, false, false, false, false, false] rfl rfl (any_of HT_.out (by kernel_rfl)) (fun _ _ _ h => h) (Or.inl ⟨by rfl, ?_⟩) ?_ ?_; rotate_left; (intro w'; go_simp; with_reducible rfl); rotate_left; (simp only [Act.put, sI_, s0_, sS_, i64_w, i32_w]; rfl)
              refine pure_ (i := 8) (N := some 73) (v := ?_) (a' := ?_) #[true, false, true, true, false, true, false, false, true, false, false, false, false] rfl rfl (any_of HT_.out (by kernel_rfl)) (fun _ _ _ h => h) (Or.inl ⟨by rfl, ?_⟩) ?_ ?_; rotate_left; (intro w'; go_simp; with_reducible rfl); rotate_left; (simp only [Act.put, sI_, s0_, sS_, i64_w, i32_w]; rfl)
              refine take_ (i := 1) (N := some 66) (v := ?_) (a' := ?_) #[true, true, true, true, false, true, false, false, true, false, false, false, false] rfl rfl (take_ofW HT_.out HW_.out (by kernel_rfl)) (fun _ _ _ h => h) (Or.inl ⟨by rfl, ?_⟩) hHeld ?_ ?_; rotate_left; (rintro w' ⟨s0, s1, s2, s3, s4, s5, s6, s7, s8, s9, s10⟩; go_simp; with_reducible rfl); rotate_left; (simp only [Act.put, sI_, s0_, sS_, i64_w, i32_w]; rfl)
              refine take_ (i := 4) (N := some 69) (v := ?_) (a' := ?_) #[true, true, true, true, true, true, false, false, true, false, false, false, false] rfl rfl (take_ofW HT_.out HW_.out (by kernel_rfl)) (fun _ _ _ h => h) (Or.inl ⟨by rfl, ?_⟩) hHeld ?_ ?_; rotate_left; (rintro w' ⟨s0, s1, s2, s3, s4, s5, s6, s7, s8, s9, s10⟩; go_simp; with_reducible rfl); rotate_left; (simp only [Act.put, sI_, s0_, sS_, i64_w, i32_w]; rfl)
              refine pure_ (i := 6) (N := some 71) (v := ?_) (a' := ?_) #[true, true, true, true, true, true, true, false, true, false, false, false, false] rfl rfl (any_of HT_.out (by kernel_rfl)) (fun _ _ _ h => h) (Or.inl ⟨by rfl, ?_⟩) ?_ ?_; rotate_left; (intro w'; go_simp; with_reducible rfl); rotate_left; (simp only [Act.put, sI_, s0_, sS_, i64_w, i32_w]; rfl)
              refine take_ (i := 7) (N := some 72) (v := ?_) (a' := ?_) (bA 9 13) rfl rfl (take_ofW HT_.out HW_.out (by kernel_rfl)) (fun _ _ _ h => h) (Or.inl ⟨by rfl, ?_⟩) hHeld ?_ ?_; rotate_left; (rintro w' ⟨s0, s1, s2, s3, s4, s5, s6, s7, s8, s9, s10⟩; go_simp; with_reducible rfl); rotate_left; (simp only [Act.put, sI_, s0_, sS_, i64_w, i32_w]; rfl)
              refine pure_ (i := 9) (N := some 74) (v := ?_) (a' := ?_) (bA 10 13) rfl rfl (any_of HT_.out (by kernel_rfl)) (fun _ _ _ h => h) (Or.inl ⟨by rfl, ?_⟩) ?_ ?_; rotate_left; (intro w'; go_simp; with_reducible rfl); rotate_left; (simp only [Act.put, sI_, s0_, sS_, i64_w, i32_w]; rfl)
              refine pure_ (i := 10) (N := some 75) (v := ?_) (a' := ?_) (bA 11 13) rfl rfl (any_of HT_.out (by kernel_rfl)) (fun _ _ _ h => h) (Or.inl ⟨by rfl, ?_⟩) ?_ ?_; rotate_left; (intro w'; go_simp; with_reducible rfl); rotate_left; (simp only [Act.put, sI_, s0_, sS_, i64_w, i32_w]; rfl)
              refine pure_ (i := 11) (N := some 76) (v := ?_) (a' := ?_) (bA 12 13) rfl rfl (any_of HT_.out (by kernel_rfl)) (fun _ _ _ h => h) (Or.inl ⟨by rfl, ?_⟩) ?_ ?_; rotate_left; (intro w'; go_simp; with_reducible rfl); rotate_left; (simp only [Act.put, sI_, s0_, sS_, i64_w, i32_w]; rfl)
              refine last_ (i := 12) (N := none) #[true, true, true, true, true, true, true, true, true, true, true, true, true] rfl rfl (one_of HT_.out (by kernel_rfl)) (by decide) (fun K hK => ?_)
              refine skip_ (w1 := ?_) (by rfl) rfl ?_ ?_
              rotate_left
              ·go_simp
               rfl
              refine hK.out _ _ ?_
              clear hK K
              refine done_ (done_of HT_.out (by kernel_rfl)) ?_
              try go_wp2
              go_roundg k2
              case measure => have := HJ7.out; have := HK2.out; omega
              case rel => exact ⟨(wrap64 (x39_2 + 1)), (y744), (x738004_2), (y746), (x738006_2), (.slice (some ⟨go59, 0, none⟩) x738003_2.length co71), (u738004), (.slice (some ⟨go62, 0, none⟩) x738005_2.length co79), (u738006), tS_, H', ⟨by have := HJ7.out; have := HK2.out; omega⟩, ⟨by (with_reducible repeat (first | apply Kd.R_alloc | apply Kd.R_drewN | apply Kd.R_drew)); exact Kd.R_mono (Kd.R_far (p := ⟨go62, (x39_2 : Int).toNat, none⟩) (Kd.R_mono HO_738003.out (fun k_ hk => (⟨hk, fun e_ => hk.2.1 (by rw [e_]; rfl)⟩ : _ ∧ k_ ≠ go62))) (fun _ hk => hk.2) (.int .i64 ji61)) (fun _ hk => ⟨hk.1.1, ⟨hk.1.2.1, hk.1.2.2⟩⟩)⟩, ⟨by (with_reducible repeat (first | apply Kd.R_alloc | apply Kd.R_drewN | apply Kd.R_drew)); exact Kd.R_mono (Kd.R_far (p := ⟨go62, (x39_2 : Int).toNat, none⟩) (Kd.R_mono HO_738004.out (fun k_ hk => (⟨hk, fun e_ => hk.1.1 (by rw [e_]; rfl)⟩ : _ ∧ k_ ≠ go62))) (fun _ hk => hk.2) (.int .i64 ji61)) (fun _ hk => ⟨hk.1.2, ⟨hk.1.1.1, hk.1.1.2⟩⟩)⟩, ⟨by (with_reducible repeat (first | apply Kd.R_alloc | apply Kd.R_drewN | apply Kd.R_drew)); exact Kd.R_mono HQ80.out (fun _ hk => ⟨hk.2, ⟨hk.1.1, hk.1.2⟩⟩)⟩, ⟨by (with_reducible repeat (first | apply Kd.R_alloc | apply Kd.R_drewN | apply Kd.R_drew)); exact Kd.R_mono (Kd.R_far (p := ⟨go62, (x39_2 : Int).toNat, none⟩) (Kd.R_mono HO_738006.out (fun k_ hk => (⟨hk, fun e_ => hk.1.2 (by rw [e_]; rfl)⟩ : _ ∧ k_ ≠ go62))) (fun _ hk => hk.2) (.int .i64 ji61)) (fun _ hk => ⟨hk.1.2, ⟨hk.1.1.1, hk.1.1.2⟩⟩)⟩, ⟨by (with_reducible repeat (first | refine blk_drewN ?_ _ | refine blk_drew ?_ | refine blk_alloc ?_ _)); refine blk_far ?_ (by have h_ := Kd.R_ne HO_738005.out BK716.out (by decide); intro e_; exact h_ (by rw [e_]; rfl)) _; (with_reducible repeat (first | refine blk_drewN ?_ _ | refine blk_drew ?_ | refine blk_alloc ?_ _)); exact BK716.out⟩, ⟨by (with_reducible repeat (first | refine blk_drewN ?_ _ | refine blk_drew ?_ | refine blk_alloc ?_ _)); refine blk_far ?_ (by have h_ := Kd.R_ne HO_738005.out BK717.out (by decide); intro e_; exact h_ (by rw [e_]; rfl)) _; (with_reducible repeat (first | refine blk_drewN ?_ _ | refine blk_drew ?_ | refine blk_alloc ?_ _)); exact BK717.out⟩, ⟨by (with_reducible repeat (first | refine blk_drewN ?_ _ | refine blk_drew ?_ | refine blk_alloc ?_ _)); refine blk_far ?_ (by have h_ := Kd.R_ne HO_738005.out BK737.out (by decide); intro e_; exact h_ (by rw [e_]; rfl)) _; (with_reducible repeat (first | refine blk_drewN ?_ _ | refine blk_drew ?_ | refine blk_alloc ?_ _)); exact BK737.out⟩, ⟨by (with_reducible repeat (first | refine blk_drewN ?_ _ | refine blk_drew ?_ | refine blk_alloc ?_ _)); refine blk_far ?_ (by have h_ := Kd.R_ne HO_738005.out BK739.out (by decide); intro e_; exact h_ (by rw [e_]; rfl)) _; (with_reducible repeat (first | refine blk_drewN ?_ _ | refine blk_drew ?_ | refine blk_alloc ?_ _)); exact BK739.out⟩, ⟨by repeat (first | (with_reducible first | exact HB.out | apply below_alloc | apply pw_below_drewN | apply below_drew1 | refine below_set ?_ GB62.out | refine below_set ?_ GE716.out | refine below_set ?_ GE717.out | refine below_set ?_ GE737.out | refine below_set ?_ GE739.out | refine below_set ?_ GE741.out) | exact HB.out)⟩⟩
             ·rw [if_neg c60] at H
              exact absurd H (by simp)
            ·rw [if_neg c57] at H
             exact absurd H (by simp)
           ·rw [if_neg c56] at H
            exact absurd H (by simp)
          ·rw [if_neg c55] at H
           exact absurd H (by simp)
         ·rw [if_neg c54] at H
          have c54b0 : decide (x39_2 < (((rd_T39 l0 a1_0).f2).length : Int)) = false := decide_eq_false c54
          clear c54
          simp only [Option.some.injEq, Prod.mk.injEq] at H
          obtain ⟨rfl, rfl, rfl, rfl, rfl, rfl, rfl, rfl, rfl, rfl, rfl⟩ := H
          have hnb81 := NB737_716.out
          have hnc81 := NB716_737.out
          have hnb82 := NB737_717.out
          have hnc82 := NB717_737.out
          have hnb83 := NB737_739.out
          have hnc83 := NB739_737.out
          obtain ⟨hcz84_0, hcz84_1, hcz84_2, hcz84_3, hcz84_4, hcz84_5, hcz84_6, hcz84_7, hcz84_8, hcz84_9, hfz84_0, hfz84_1, hfz84_2, hfz84_3, hfz84_4, hfz84_5, hfz84_6, hfz84_7, hfz84_8, hfz84_9⟩ := cs10_ BK737.out
          have hnb85 := NB717_716.out
          have hnc85 := NB716_717.out
          have hnb86 := NB717_739.out
          have hnc86 := NB739_717.out
          obtain ⟨hcz87_0, hcz87_1, hcz87_2, hcz87_3, hcz87_4, hcz87_5, hcz87_6, hcz87_7, hcz87_8, hcz87_9, hfz87_0, hfz87_1, hfz87_2, hfz87_3, hfz87_4, hfz87_5, hfz87_6, hfz87_7, hfz87_8, hfz87_9⟩ := cs10_ BK717.out
          obtain ⟨Ao88, co88, eo88⟩ := Kd.R_slice HO_738003.out
          subst eo88
          obtain ⟨Ao89, co89, eo89⟩ := Kd.R_slice HO_738004.out
          subst eo89
          obtain ⟨Ao90, co90, eo90⟩ := Kd.R_slice HO_738005.out
          subst eo90
          obtain ⟨Ao91, co91, eo91⟩ := Kd.R_slice HO_738006.out
          subst eo91
          go_wp2
          refine bodyPost_ret (results_ct rfl _ _ gb717 25 #[.int .i64 t719, .int .i64 t720, .int .i64 t721, .slice Ao88 x738003_2.length co88, .slice Ao89 x738004_2.length co89, .slice Ao90 x738005_2.length co90, .slice Ao91 x738006_2.length co91, .int .i64 t734, .int .i64 t735, .bool t736] (0, 0) _ rfl (dP10_ BK717) Try.underlying25 rfl (by kernel_rfl)) rfl ?_
          exact ⟨_, _, _, _, tE_, by (with_reducible repeat (first | apply Kd.R_alloc | apply Kd.R_drewN | apply Kd.R_drew)); exact Kd.R_mono (far10_ (Kd.R_types HO_738003.out BK717.out (by decide)) gb717 (fun _ hk => hk.2) (.int .i64 t719) (.int .i64 t720) (.int .i64 t721) (.slice Ao88 x738003_2.length co88) (.slice Ao89 x738004_2.length co89) (.slice Ao90 x738005_2.length co90) (.slice Ao91 x738006_2.length co91) (.int .i64 t734) (.int .i64 t735) (.bool t736)) (fun _ hk => ⟨hk.1.1, ⟨hk.1.2.1, hk.1.2.2⟩⟩), by (with_reducible repeat (first | apply Kd.R_alloc | apply Kd.R_drewN | apply Kd.R_drew)); exact Kd.R_mono (far10_ (Kd.R_types HO_738004.out BK717.out (by decide)) gb717 (fun _ hk => hk.2) (.int .i64 t719) (.int .i64 t720) (.int .i64 t721) (.slice Ao88 x738003_2.length co88) (.slice Ao89 x738004_2.length co89) (.slice Ao90 x738005_2.length co90) (.slice Ao91 x738006_2.length co91) (.int .i64 t734) (.int .i64 t735) (.bool t736)) (fun _ hk => ⟨hk.1.1, ⟨hk.1.2.1, hk.1.2.2⟩⟩), by (with_reducible repeat (first | apply Kd.R_alloc | apply Kd.R_drewN | apply Kd.R_drew)); exact Kd.R_mono (far10_ (Kd.R_types HO_738005.out BK717.out (by decide)) gb717 (fun _ hk => hk.2) (.int .i64 t719) (.int .i64 t720) (.int .i64 t721) (.slice Ao88 x738003_2.length co88) (.slice Ao89 x738004_2.length co89) (.slice Ao90 x738005_2.length co90) (.slice Ao91 x738006_2.length co91) (.int .i64 t734) (.int .i64 t735) (.bool t736)) (fun _ hk => ⟨hk.1.1, ⟨hk.1.2.1, hk.1.2.2⟩⟩), by (with_reducible repeat (first | apply Kd.R_alloc | apply Kd.R_drewN | apply Kd.R_drew)); exact Kd.R_mono (far10_ (Kd.R_types HO_738006.out BK717.out (by decide)) gb717 (fun _ hk => hk.2) (.int .i64 t719) (.int .i64 t720) (.int .i64 t721) (.slice Ao88 x738003_2.length co88) (.slice Ao89 x738004_2.length co89) (.slice Ao90 x738005_2.length co90) (.slice Ao91 x738006_2.length co91) (.int .i64 t734) (.int .i64 t735) (.bool t736)) (fun _ hk => ⟨hk.1.1, ⟨hk.1.2.1, hk.1.2.2⟩⟩), dL4_ HB GE716 GE717 GE737 GE739⟩
   ·rw [if_neg c7] at H
    exact absurd H (by simp)
  ·rw [if_neg c6] at H
   exact absurd H (by simp)
 ·rw [if_neg c4] at H
  have c4b0 : (t718 == 0) = false := beq_eq_false_iff_ne.mpr c4
  have c4b1 : (t718 != 0) = true := bne_iff_ne.mpr c4
  simp only [Option.some.injEq, Prod.mk.injEq] at H
  obtain ⟨rfl, rfl, rfl, rfl, rfl, rfl, rfl, rfl, rfl, rfl, rfl⟩ := H
  go_enter Try.func26, Try.ntmps26
  go_wp2_with (first | ((with_reducible refine gate_dst (N := 3) rfl ?_); (try (refine gate_guard (by rfl) ?_; dsimp only)); refine box_event ?hg (N := 3) ?hd (cs := #[.int .i64 a1_0, .int .i64 a1_1, .int .i64 a1_2, .slice A1_3 l1_3.length c1_3, .slice A1_4 l1_4.length c1_4, .slice A1_5 l1_5.length c1_5, .slice A1_6 l1_6.length c1_6, .int .i64 a1_7, .int .i64 a1_8, .bool a1_9]) (t := 25) ?hr ?_; (case hd => rfl); (case hg => rfl); (case hr => first | (go_simp; done) | (go_simp; rfl)); intro gb716 hg w92 hbox hb; have BK716 := Aside0.mk (hbox); have GW716 := Aside0.mk ((dS_ hg (dL_ HB) : w.heap.size ≤ gb716)); have GE716 := Aside0.mk ((dS_ hg (dL_ HB) : w.heap.size ≤ gb716)); replace HB := Aside0.mk (below_step (dL_ HB) hb); clear hb hbox hg) | ((with_reducible refine gate_dst (N := 4) rfl ?_); (try (refine gate_guard (by rfl) ?_; dsimp only)); refine box_event ?hg (N := 4) ?hd (cs := #[.int .i64 0, .int .i64 0, .int .i64 0, .slice none 0 0, .slice none 0 0, .slice none 0 0, .slice none 0 0, .int .i64 0, .int .i64 0, .bool false]) (t := 25) ?hr ?_; (case hd => rfl); (case hg => rfl); (case hr => first | (go_simp; done) | (go_simp; rfl)); intro gb717 hg w93 hbox hb; have BK717 := Aside0.mk (hbox); have GW717 := Aside0.mk ((dS_ hg (dL1_ HB GE716) : w.heap.size ≤ gb717)); have GE717 := Aside0.mk ((dS_ hg (dL1_ HB GE716) : w.heap.size ≤ gb717)); replace HB := Aside0.mk (below_step (dL1_ HB GE716) hb); have NB716_717 := Aside0.mk ((by rw [hg]; exact Nat.ne_of_lt (blk_lt (dB_ BK716)) : gb716 ≠ gb717)); have NB717_716 := Aside0.mk ((by rw [hg]; exact Nat.ne_of_gt (blk_lt (dB_ BK716)) : gb717 ≠ gb716)); replace BK716 := Aside0.mk (blk_below (g := gb716) (o := .cells #[.int .i64 a1_0, .int .i64 a1_1, .int .i64 a1_2, .slice A1_3 l1_3.length c1_3, .slice A1_4 l1_4.length c1_4, .slice A1_5 l1_5.length c1_5, .slice A1_6 l1_6.length c1_6, .int .i64 a1_7, .int .i64 a1_8, .bool a1_9] 25 (0, 0)) (dB_ BK716) hb); clear hb hbox hg; have hnb94 := NB716_717.out; have hnc94 := NB717_716.out; obtain ⟨hcz95_0, hcz95_1, hcz95_2, hcz95_3, hcz95_4, hcz95_5, hcz95_6, hcz95_7, hcz95_8, hcz95_9, hfz95_0, hfz95_1, hfz95_2, hfz95_3, hfz95_4, hfz95_5, hfz95_6, hfz95_7, hfz95_8, hfz95_9⟩ := cs10_ BK716.out) | ((with_reducible refine gate_callee (f := 15) rfl ?_); refine goesL_ (some 14) rfl rfl Try.func15 (by kernel_rfl) rfl #[.slice A0 l0.length c0, .agg #[.int .i64 a1_0, .int .i64 a1_1, .int .i64 a1_2, .slice A1_3 l1_3.length c1_3, .slice A1_4 l1_4.length c1_4, .slice A1_5 l1_5.length c1_5, .slice A1_6 l1_6.length c1_6, .int .i64 a1_7, .int .i64 a1_8, .bool a1_9]] rfl tA_ ?_; (with_reducible refine (plant_Validate.calls k _ _ l0 a1_0 a1_1 a1_2 _ _ l1_3 _ _ l1_4 _ _ l1_5 _ _ l1_6 a1_7 a1_8 a1_9 t718 _ ?side1 ?side2 ?side3 ?side4 ?side5 ?side6 ?side7 ?side8 ?side9 ?side10 A3.out).mono ?_); (case side1 => exact dC_ HR0 HB); (case side2 => exact HC0.out); (case side3 => exact dC_ HR1_3 HB); (case side4 => exact HC1_3.out); (case side5 => exact dC_ HR1_4 HB); (case side6 => exact HC1_4.out); (case side7 => exact dC_ HR1_5 HB); (case side8 => exact HC1_5.out); (case side9 => exact dC_ HR1_6 HB); (case side10 => exact HC1_6.out); rintro e w96 ⟨rfl, hb⟩; refine ⟨_, rfl, ?_⟩; replace BK716 := Aside0.mk (blk_below (g := gb716) (o := .cells #[.int .i64 a1_0, .int .i64 a1_1, .int .i64 a1_2, .slice A1_3 l1_3.length c1_3, .slice A1_4 l1_4.length c1_4, .slice A1_5 l1_5.length c1_5, .slice A1_6 l1_6.length c1_6, .int .i64 a1_7, .int .i64 a1_8, .bool a1_9] 25 (0, 0)) (dB_ BK716) hb); replace BK717 := Aside0.mk (blk_below (g := gb717) (o := .cells #[.int .i64 0, .int .i64 0, .int .i64 0, .slice none 0 0, .slice none 0 0, .slice none 0 0, .slice none 0 0, .int .i64 0, .int .i64 0, .bool false] 25 (0, 0)) (dB_ BK717) hb); replace HB := Aside0.mk (below_step (dL2_ HB GE716 GE717) hb); obtain ⟨hcz97_0, hcz97_1, hcz97_2, hcz97_3, hcz97_4, hcz97_5, hcz97_6, hcz97_7, hcz97_8, hcz97_9, hfz97_0, hfz97_1, hfz97_2, hfz97_3, hfz97_4, hfz97_5, hfz97_6, hfz97_7, hfz97_8, hfz97_9⟩ := cs10_ BK717.out))
  refine bodyPost_ret (results_ct rfl _ _ gb717 25 #[.int .i64 0, .int .i64 0, .int .i64 0, .slice none 0 0, .slice none 0 0, .slice none 0 0, .slice none 0 0, .int .i64 0, .int .i64 0, .bool false] (0, 0) _ rfl (dP10_ BK717) Try.underlying25 rfl (by kernel_rfl)) rfl ?_
  exact ⟨_, _, _, _, tE_, by first | exact Kd.R_nil _ _ _ _ _ | exact Kd.N_nil _ _ _ _ _ | exact Kd.V_nil _ _ _ _ _ | exact Kd.Q_nil _ _ _ _ _ | exact Kd.S_nil _ _ _ _ _, by first | exact Kd.R_nil _ _ _ _ _ | exact Kd.N_nil _ _ _ _ _ | exact Kd.V_nil _ _ _ _ _ | exact Kd.Q_nil _ _ _ _ _ | exact Kd.S_nil _ _ _ _ _, by first | exact Kd.R_nil _ _ _ _ _ | exact Kd.N_nil _ _ _ _ _ | exact Kd.V_nil _ _ _ _ _ | exact Kd.Q_nil _ _ _ _ _ | exact Kd.S_nil _ _ _ _ _, by first | exact Kd.R_nil _ _ _ _ _ | exact Kd.N_nil _ _ _ _ _ | exact Kd.V_nil _ _ _ _ _ | exact Kd.Q_nil _ _ _ _ _ | exact Kd.S_nil _ _ _ _ _, dL2_ HB GE716 GE717⟩

end Go.Proofs.Ytnkgelnkoljgdaa.Q
