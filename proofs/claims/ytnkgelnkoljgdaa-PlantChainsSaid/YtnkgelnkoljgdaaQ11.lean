-- PRINTED by print.py (a twelfth state) out of the translation. Not trusted: Lean checks it.
import Derived.Test.YtnkgelnkoljgdaaPrs
import Derived.Test.YtnkgelnkoljgdaaQ0
import Derived.Test.YtnkgelnkoljgdaaQ8
import Derived.Test.YtnkgelnkoljgdaaQ10
namespace Go.Proofs.Ytnkgelnkoljgdaa.Q
open Go.RowKit Go.Proofs.YtnkgelnkoljgdaaPrs Go.Proofs.YtnkgelnkoljgdaaOwn Go.Proofs.YtnkgelnkoljgdaaW.PrintWords Go.Proofs.YtnkgelnkoljgdaaW.PrintLast Go.Proofs.YtnkgelnkoljgdaaW.PrintMore
open List renaming setIfInBounds_toArray → sI_, set_cons_zero → s0_, set_cons_succ → sS_
attribute [local go_sem] max2_int min2_int max_two min_two max_three min_three max_four min_four   -- for this text's walks alone
set_option linter.unusedVariables false
set_option linter.unusedSimpArgs false

/-! ### plant_Bring: function 20 -/
mutual
def plant_Bring.l0 : Nat → Int → Int → Bool → List Int → Int → Int → Int → Int → Int → List Int → List Int → List Int → List Int → Int → Int → Bool → Int → Int → Int → List Int → List Int → List Int → List Int → Int → Int → Bool → ByteArray → List Int → List (S41) → Option (Int × Int × Int × List Int × List Int × List Int × List Int × Int × Int × Bool × Int × Int)
  | 0, _, _, _, _, _, _, _, _, _, _, _, _, _, _, _, _, _, _, _, _, _, _, _, _, _, _, _, _, _ => none
  | k + 1, x2, x3, x14, x37, x38, x39, x155000, x155001, x155002, x155003, x155004, x155005, x155006, x155007, x155008, x155009, x176000, x176001, x176002, x176003, x176004, x176005, x176006, x176007, x176008, x176009, x178000, x178001, x178002 => if x39 < x38 then (if 0 ≤ x39 then (if x39 < (x37.length : Int) then (if x14 = true then (plant_Bring.l0 k x2 x3 true x37 x38 (wrap64 (x39 + 1)) x155000 x155001 x155002 x155003 x155004 x155005 x155006 x155007 x155008 x155009 x176000 x176001 x176002 x176003 x176004 x176005 x176006 x176007 x176008 x176009 x178000 x178001 x178002) else (plant_Bring.l0 k x2 x3 ((rd x37 x39) == x2) x37 x38 (wrap64 (x39 + 1)) x155000 x155001 x155002 x155003 x155004 x155005 x155006 x155007 x155008 x155009 x176000 x176001 x176002 x176003 x176004 x176005 x176006 x176007 x176008 x176009 x178000 x178001 x178002)) else (none)) else (none)) else (if x155009 = true then (plant_Bring.j1 k x3 (!x14) x176000 x176001 x176002 x176003 x176004 x176005 x176006 x176007 x176008 x176009 x178000 x178001 x178002) else (plant_Bring.j1 k x3 true x176000 x176001 x176002 x176003 x176004 x176005 x176006 x176007 x176008 x176009 x178000 x178001 x178002))
def plant_Bring.j1 : Nat → Int → Bool → Int → Int → Int → List Int → List Int → List Int → List Int → Int → Int → Bool → ByteArray → List Int → List (S41) → Option (Int × Int × Int × List Int × List Int × List Int × List Int × Int × Int × Bool × Int × Int)
  | 0, _, _, _, _, _, _, _, _, _, _, _, _, _, _, _ => none
  | k + 1, x3, x56, x176000, x176001, x176002, x176003, x176004, x176005, x176006, x176007, x176008, x176009, x178000, x178001, x178002 => if x56 = true then (some (x176000, x176001, x176002, x176003, x176004, x176005, x176006, x176007, x176008, x176009, 0, 0)) else (plant_Bring.l1 k x3 x178002 (x178002.length : Int) 0 x176000 x176001 x176002 x176003 x176004 x176005 x176006 x176007 x176008 x176009)
def plant_Bring.l1 : Nat → Int → List (S41) → Int → Int → Int → Int → Int → List Int → List Int → List Int → List Int → Int → Int → Bool → Option (Int × Int × Int × List Int × List Int × List Int × List Int × Int × Int × Bool × Int × Int)
  | 0, _, _, _, _, _, _, _, _, _, _, _, _, _, _ => none
  | k + 1, x3, x59, x60, x61, x176000, x176001, x176002, x176003, x176004, x176005, x176006, x176007, x176008, x176009 => if x61 < x60 then (if 0 ≤ x61 then (if x61 < (x59.length : Int) then (if x61 < (x176004.length : Int) then (if x61 < (x176003.length : Int) then (if x61 < (x176005.length : Int) then (plant_Bring.l1 k x3 x59 x60 (wrap64 (x61 + 1)) x176000 x176001 x176002 (x176003.set (x61 : Int).toNat (mn (wrap64 ((rd x176003 x61) + (wrap64 (Int.tdiv (wrap64 ((rd x176004 x61) + (wrap64 (x3 * ((rd_T41 x59 x61).f1))))) 8)))) 1000000)) (x176004.set (x61 : Int).toNat (Int.tmod (wrap64 ((rd x176004 x61) + (wrap64 (x3 * ((rd_T41 x59 x61).f1))))) 8)) (x176005.set (x61 : Int).toNat (mn (wrap64 ((rd x176005 x61) + (wrap64 (Int.tdiv (wrap64 ((rd x176004 x61) + (wrap64 (x3 * ((rd_T41 x59 x61).f1))))) 8)))) 1000000)) x176006 x176007 x176008 x176009) else (none)) else (none)) else (none)) else (none)) else (none)) else (some (x176000, x176001, x176002, x176003, x176004, x176005, x176006, mn (wrap64 (x176007 + x3)) 1000000, x176008, x176009, x3, 0))
end
def plant_Bring.f (k : Nat) (l0 : List (S39)) (a1_0 : Int) (a1_1 : Int) (a1_2 : Int) (l1_3 : List Int) (l1_4 : List Int) (l1_5 : List Int) (l1_6 : List Int) (a1_7 : Int) (a1_8 : Int) (a1_9 : Bool) (a2 : Int) (a3 : Int) : Option (Int × Int × Int × List Int × List Int × List Int × List Int × Int × Int × Bool × Int × Int) := (plant_argued.f k l0 a1_0 a1_1 a1_2 l1_3 l1_4 l1_5 l1_6 a1_7 a1_8 a1_9 a2 a3).bind fun t156 => (if t156 = 0 then ((plant_clone.f a1_0 a1_1 a1_2 l1_3 l1_4 l1_5 l1_6 a1_7 a1_8 a1_9).bind fun bt157 => (if 0 ≤ a1_0 then (if a1_0 < (l0.length : Int) then (plant_Bring.l0 k a2 a3 false ((rd_T39 l0 a1_0).f1) (((rd_T39 l0 a1_0).f1).length : Int) 0 a1_0 a1_1 a1_2 l1_3 l1_4 l1_5 l1_6 a1_7 a1_8 a1_9 bt157.1 bt157.2.1 bt157.2.2.1 bt157.2.2.2.1 bt157.2.2.2.2.1 bt157.2.2.2.2.2.1 bt157.2.2.2.2.2.2.1 bt157.2.2.2.2.2.2.2.1 bt157.2.2.2.2.2.2.2.2.1 bt157.2.2.2.2.2.2.2.2.2 ((rd_T39 l0 a1_0).f0) ((rd_T39 l0 a1_0).f1) ((rd_T39 l0 a1_0).f2)) else (none)) else (none))) else (some (0, 0, 0, ([] : List Int), ([] : List Int), ([] : List Int), ([] : List Int), 0, 0, false, 0, t156)))
theorem plant_Bring.mono_l : ∀ k, (∀ y0 y1 y2 y3 y4 y5 y6 y7 y8 y9 y10 y11 y12 y13 y14 y15 y16 y17 y18 y19 y20 y21 y22 y23 y24 y25 y26 y27 y28, LeO (plant_Bring.l0 k y0 y1 y2 y3 y4 y5 y6 y7 y8 y9 y10 y11 y12 y13 y14 y15 y16 y17 y18 y19 y20 y21 y22 y23 y24 y25 y26 y27 y28) (plant_Bring.l0 (k + 1) y0 y1 y2 y3 y4 y5 y6 y7 y8 y9 y10 y11 y12 y13 y14 y15 y16 y17 y18 y19 y20 y21 y22 y23 y24 y25 y26 y27 y28)) ∧ (∀ y0 y1 y2 y3 y4 y5 y6 y7 y8 y9 y10 y11 y12 y13 y14, LeO (plant_Bring.j1 k y0 y1 y2 y3 y4 y5 y6 y7 y8 y9 y10 y11 y12 y13 y14) (plant_Bring.j1 (k + 1) y0 y1 y2 y3 y4 y5 y6 y7 y8 y9 y10 y11 y12 y13 y14)) ∧ (∀ y0 y1 y2 y3 y4 y5 y6 y7 y8 y9 y10 y11 y12 y13, LeO (plant_Bring.l1 k y0 y1 y2 y3 y4 y5 y6 y7 y8 y9 y10 y11 y12 y13) (plant_Bring.l1 (k + 1) y0 y1 y2 y3 y4 y5 y6 y7 y8 y9 y10 y11 y12 y13))
  | 0 => ⟨fun _ _ _ _ _ _ _ _ _ _ _ _ _ _ _ _ _ _ _ _ _ _ _ _ _ _ _ _ _ r h => by simp [plant_Bring.l0] at h, fun _ _ _ _ _ _ _ _ _ _ _ _ _ _ _ r h => by simp [plant_Bring.j1] at h, fun _ _ _ _ _ _ _ _ _ _ _ _ _ _ r h => by simp [plant_Bring.l1] at h⟩
  | k + 1 => by
    obtain ⟨ih0, ih1, ih2⟩ := plant_Bring.mono_l k
    refine ⟨?_, ?_, ?_⟩
    · intro y0 y1 y2 y3 y4 y5 y6 y7 y8 y9 y10 y11 y12 y13 y14 y15 y16 y17 y18 y19 y20 y21 y22 y23 y24 y25 y26 y27 y28
      unfold plant_Bring.l0
      repeat' first
      | (with_reducible first | exact ih0 _ _ _ _ _ _ _ _ _ _ _ _ _ _ _ _ _ _ _ _ _ _ _ _ _ _ _ _ _ | exact ih1 _ _ _ _ _ _ _ _ _ _ _ _ _ _ _ | exact ih2 _ _ _ _ _ _ _ _ _ _ _ _ _ _ | exact plant_argued.mono _ _ _ _ _ _ _ _ _ _ _ _ _ _ | exact LeO.refl _ | exact LeO.none _ | refine LeO.ite ?_ ?_ | refine LeO.bind ?_ (fun _ => ?_))
      | exact ih0 _ _ _ _ _ _ _ _ _ _ _ _ _ _ _ _ _ _ _ _ _ _ _ _ _ _ _ _ _
      | exact ih1 _ _ _ _ _ _ _ _ _ _ _ _ _ _ _
      | exact ih2 _ _ _ _ _ _ _ _ _ _ _ _ _ _
      | exact plant_argued.mono _ _ _ _ _ _ _ _ _ _ _ _ _ _
      | exact LeO.none _
      | refine LeO.ite ?_ ?_
      | refine LeO.bind ?_ (fun _ => ?_)
    · intro y0 y1 y2 y3 y4 y5 y6 y7 y8 y9 y10 y11 y12 y13 y14
      unfold plant_Bring.j1
      repeat' first
      | (with_reducible first | exact ih0 _ _ _ _ _ _ _ _ _ _ _ _ _ _ _ _ _ _ _ _ _ _ _ _ _ _ _ _ _ | exact ih1 _ _ _ _ _ _ _ _ _ _ _ _ _ _ _ | exact ih2 _ _ _ _ _ _ _ _ _ _ _ _ _ _ | exact plant_argued.mono _ _ _ _ _ _ _ _ _ _ _ _ _ _ | exact LeO.refl _ | exact LeO.none _ | refine LeO.ite ?_ ?_ | refine LeO.bind ?_ (fun _ => ?_))
      | exact ih0 _ _ _ _ _ _ _ _ _ _ _ _ _ _ _ _ _ _ _ _ _ _ _ _ _ _ _ _ _
      | exact ih1 _ _ _ _ _ _ _ _ _ _ _ _ _ _ _
      | exact ih2 _ _ _ _ _ _ _ _ _ _ _ _ _ _
      | exact plant_argued.mono _ _ _ _ _ _ _ _ _ _ _ _ _ _
      | exact LeO.none _
      | refine LeO.ite ?_ ?_
      | refine LeO.bind ?_ (fun _ => ?_)
    · intro y0 y1 y2 y3 y4 y5 y6 y7 y8 y9 y10 y11 y12 y13
      unfold plant_Bring.l1
      repeat' first
      | (with_reducible first | exact ih0 _ _ _ _ _ _ _ _ _ _ _ _ _ _ _ _ _ _ _ _ _ _ _ _ _ _ _ _ _ | exact ih1 _ _ _ _ _ _ _ _ _ _ _ _ _ _ _ | exact ih2 _ _ _ _ _ _ _ _ _ _ _ _ _ _ | exact plant_argued.mono _ _ _ _ _ _ _ _ _ _ _ _ _ _ | exact LeO.refl _ | exact LeO.none _ | refine LeO.ite ?_ ?_ | refine LeO.bind ?_ (fun _ => ?_))
      | exact ih0 _ _ _ _ _ _ _ _ _ _ _ _ _ _ _ _ _ _ _ _ _ _ _ _ _ _ _ _ _
      | exact ih1 _ _ _ _ _ _ _ _ _ _ _ _ _ _ _
      | exact ih2 _ _ _ _ _ _ _ _ _ _ _ _ _ _
      | exact plant_argued.mono _ _ _ _ _ _ _ _ _ _ _ _ _ _
      | exact LeO.none _
      | refine LeO.ite ?_ ?_
      | refine LeO.bind ?_ (fun _ => ?_)
theorem plant_Bring.mono : ∀ a0 a1 a2 a3 a4 a5 a6 a7 a8 a9 a10 a11 a12 k, LeO (plant_Bring.f k a0 a1 a2 a3 a4 a5 a6 a7 a8 a9 a10 a11 a12) (plant_Bring.f (k + 1) a0 a1 a2 a3 a4 a5 a6 a7 a8 a9 a10 a11 a12) := by
  intro a0 a1 a2 a3 a4 a5 a6 a7 a8 a9 a10 a11 a12 k
  obtain ⟨ih0, ih1, ih2⟩ := plant_Bring.mono_l k
  unfold plant_Bring.f
  repeat' first
      | (with_reducible first | exact ih0 _ _ _ _ _ _ _ _ _ _ _ _ _ _ _ _ _ _ _ _ _ _ _ _ _ _ _ _ _ | exact ih1 _ _ _ _ _ _ _ _ _ _ _ _ _ _ _ | exact ih2 _ _ _ _ _ _ _ _ _ _ _ _ _ _ | exact plant_argued.mono _ _ _ _ _ _ _ _ _ _ _ _ _ _ | exact LeO.refl _ | exact LeO.none _ | refine LeO.ite ?_ ?_ | refine LeO.bind ?_ (fun _ => ?_))
      | exact ih0 _ _ _ _ _ _ _ _ _ _ _ _ _ _ _ _ _ _ _ _ _ _ _ _ _ _ _ _ _
      | exact ih1 _ _ _ _ _ _ _ _ _ _ _ _ _ _ _
      | exact ih2 _ _ _ _ _ _ _ _ _ _ _ _ _ _
      | exact plant_argued.mono _ _ _ _ _ _ _ _ _ _ _ _ _ _
      | exact LeO.none _
      | refine LeO.ite ?_ ?_
      | refine LeO.bind ?_ (fun _ => ?_)
def plant_Bring.T17 : Bool × List (List Nat × List Nat) := (true, [([], []), ([0], [0]), ([], []), ([1, 2], [1, 2]), ([3], [3]), ([], []), ([], []), ([6], [6]), ([5, 7], [5, 7]), ([4, 8], [4, 8]), ([9, 0, 1, 2, 3, 4, 5, 6, 7, 8, 9], [9])])
def plant_Bring.B17 : List Nat := [0, 1, 0, 7, 15, 0, 0, 64, 224, 511, 1023]
theorem plant_Bring.tab17 : rtab .any (opsOf Try.f20 17) = plant_Bring.T17 := by kernel_rfl
theorem plant_Bring.bits17 : waitsOk plant_Bring.T17.2 plant_Bring.B17 = true := by kernel_rfl
def plant_Bring.T18 : Bool × List (List Nat × List Nat) := (true, [([], []), ([0], [0]), ([], []), ([], []), ([3], [3]), ([], []), ([4, 5], [4, 5]), ([6], [6]), ([], []), ([8], [8]), ([7, 9], [7, 9]), ([10], [10]), ([1, 2, 0, 1, 2, 3, 4, 5, 6, 7, 8, 9, 10, 11], [1, 2]), ([12, 11, 0, 1, 2, 3, 4, 5, 6, 7, 8, 9, 10, 11], [11, 12])])
def plant_Bring.B18 : List Nat := [0, 1, 0, 0, 8, 0, 56, 120, 0, 256, 1016, 2040, 4095, 8191]
theorem plant_Bring.tab18 : rtab .any (opsOf Try.f20 18) = plant_Bring.T18 := by kernel_rfl
theorem plant_Bring.bits18 : waitsOk plant_Bring.T18.2 plant_Bring.B18 = true := by kernel_rfl
def plant_Bring.T19 : Bool × List (List Nat × List Nat) := (true, [([], []), ([0], [0]), ([], []), ([], []), ([3], [3]), ([], []), ([4, 5], [4, 5]), ([6], [6]), ([], []), ([8], [8]), ([7, 9], [7, 9]), ([10], [10]), ([1, 2, 0, 1, 2, 3, 4, 5, 6, 7, 8, 9, 10, 11], [1, 2]), ([12, 11, 0, 1, 2, 3, 4, 5, 6, 7, 8, 9, 10, 11], [11, 12])])
def plant_Bring.B19 : List Nat := [0, 1, 0, 0, 8, 0, 56, 120, 0, 256, 1016, 2040, 4095, 8191]
theorem plant_Bring.tab19 : rtab .any (opsOf Try.f20 19) = plant_Bring.T19 := by kernel_rfl
theorem plant_Bring.bits19 : waitsOk plant_Bring.T19.2 plant_Bring.B19 = true := by kernel_rfl
set_option maxHeartbeats 8000000 in
set_option maxRecDepth 100000 in
theorem plant_Bring.calls (k : Nat) (A0 : Option Addr) (c0 : Nat) (l0 : List (S39)) (a1_0 : Int) (a1_1 : Int) (a1_2 : Int) (A1_3 : Option Addr) (c1_3 : Nat) (l1_3 : List Int) (A1_4 : Option Addr) (c1_4 : Nat) (l1_4 : List Int) (A1_5 : Option Addr) (c1_5 : Nat) (l1_5 : List Int) (A1_6 : Option Addr) (c1_6 : Nat) (l1_6 : List Int) (a1_7 : Int) (a1_8 : Int) (a1_9 : Bool) (a2 : Int) (a3 : Int) (r1 : Int) (r2 : Int) (r3 : Int) (r4 : List Int) (r5 : List Int) (r6 : List Int) (r7 : List Int) (r8 : Int) (r9 : Int) (r10 : Bool) (r11 : Int) (r12 : Int) (w : World) (hr0 : Kd.C k39 w A0 l0.length l0) (hc0 : l0.length ≤ c0) (hr1_3 : Kd.C (Kd.int .i64) w A1_3 l1_3.length l1_3) (hc1_3 : l1_3.length ≤ c1_3) (hr1_4 : Kd.C (Kd.int .i64) w A1_4 l1_4.length l1_4) (hc1_4 : l1_4.length ≤ c1_4) (hr1_5 : Kd.C (Kd.int .i64) w A1_5 l1_5.length l1_5) (hc1_5 : l1_5.length ≤ c1_5) (hr1_6 : Kd.C (Kd.int .i64) w A1_6 l1_6.length l1_6) (hc1_6 : l1_6.length ≤ c1_6) (h : plant_Bring.f k l0 a1_0 a1_1 a1_2 l1_3 l1_4 l1_5 l1_6 a1_7 a1_8 a1_9 a2 a3 = some (r1, r2, r3, r4, r5, r6, r7, r8, r9, r10, r11, r12)) :
    Calls Try.prog 20 #[.slice A0 l0.length c0, .agg #[.int .i64 a1_0, .int .i64 a1_1, .int .i64 a1_2, .slice A1_3 l1_3.length c1_3, .slice A1_4 l1_4.length c1_4, .slice A1_5 l1_5.length c1_5, .slice A1_6 l1_6.length c1_6, .int .i64 a1_7, .int .i64 a1_8, .bool a1_9], .int .i64 a2, .int .i64 a3] w fun e w' => ∃ v3_ v4_ v5_ v6_ : Value, e = .returned (.tuple #[.agg #[.int .i64 r1, .int .i64 r2, .int .i64 r3, v3_, v4_, v5_, v6_, .int .i64 r8, .int .i64 r9, .bool r10], .int .i64 r11, .int .i64 r12]) ∧ Kd.R (Kd.int .i64) 3 w' w.heap.size (fun k_ => some k_ ≠ (v4_ : Value).ownBlock ∧ some k_ ≠ (v5_ : Value).ownBlock ∧ some k_ ≠ (v6_ : Value).ownBlock) v3_ r4 ∧ Kd.R (Kd.int .i64) 3 w' w.heap.size (fun k_ => some k_ ≠ (v3_ : Value).ownBlock ∧ some k_ ≠ (v5_ : Value).ownBlock ∧ some k_ ≠ (v6_ : Value).ownBlock) v4_ r5 ∧ Kd.R (Kd.int .i64) 3 w' w.heap.size (fun k_ => some k_ ≠ (v3_ : Value).ownBlock ∧ some k_ ≠ (v4_ : Value).ownBlock ∧ some k_ ≠ (v6_ : Value).ownBlock) v5_ r6 ∧ Kd.R (Kd.int .i64) 3 w' w.heap.size (fun k_ => some k_ ≠ (v3_ : Value).ownBlock ∧ some k_ ≠ (v4_ : Value).ownBlock ∧ some k_ ≠ (v5_ : Value).ownBlock) v6_ r7 ∧ Below w.heap.size w w' := by
 have hu25 := Try.underlying25
 have hu39 := Try.underlying39
 have hu41 := Try.underlying41
 have HR0 := Aside0.mk hr0
 have HC0 := Aside0.mk hc0
 clear hr0 hc0
 have HR1_3 := Aside0.mk hr1_3
 have HC1_3 := Aside0.mk hc1_3
 clear hr1_3 hc1_3
 have HR1_4 := Aside0.mk hr1_4
 have HC1_4 := Aside0.mk hc1_4
 clear hr1_4 hc1_4
 have HR1_5 := Aside0.mk hr1_5
 have HC1_5 := Aside0.mk hc1_5
 clear hr1_5 hc1_5
 have HR1_6 := Aside0.mk hr1_6
 have HC1_6 := Aside0.mk hc1_6
 clear hr1_6 hc1_6
 have HB := Aside0.mk (Below.refl w.heap.size w)
 have H : ((plant_argued.f k l0 a1_0 a1_1 a1_2 l1_3 l1_4 l1_5 l1_6 a1_7 a1_8 a1_9 a2 a3).bind fun t156 => (if t156 = 0 then ((plant_clone.f a1_0 a1_1 a1_2 l1_3 l1_4 l1_5 l1_6 a1_7 a1_8 a1_9).bind fun bt157 => (if 0 ≤ a1_0 then (if a1_0 < (l0.length : Int) then (plant_Bring.l0 k a2 a3 false ((rd_T39 l0 a1_0).f1) (((rd_T39 l0 a1_0).f1).length : Int) 0 a1_0 a1_1 a1_2 l1_3 l1_4 l1_5 l1_6 a1_7 a1_8 a1_9 bt157.1 bt157.2.1 bt157.2.2.1 bt157.2.2.2.1 bt157.2.2.2.2.1 bt157.2.2.2.2.2.1 bt157.2.2.2.2.2.2.1 bt157.2.2.2.2.2.2.2.1 bt157.2.2.2.2.2.2.2.2.1 bt157.2.2.2.2.2.2.2.2.2 ((rd_T39 l0 a1_0).f0) ((rd_T39 l0 a1_0).f1) ((rd_T39 l0 a1_0).f2)) else (none)) else (none))) else (some (0, 0, 0, ([] : List Int), ([] : List Int), ([] : List Int), ([] : List Int), 0, 0, false, 0, t156)))) = some (r1, r2, r3, r4, r5, r6, r7, r8, r9, r10, r11, r12) := h
 clear h
 replace H := Option.bind_eq_some_iff.mp H
 obtain ⟨t156, A50, H⟩ := H
 replace H : (if t156 = 0 then ((plant_clone.f a1_0 a1_1 a1_2 l1_3 l1_4 l1_5 l1_6 a1_7 a1_8 a1_9).bind fun bt157 => (if 0 ≤ a1_0 then (if a1_0 < (l0.length : Int) then (plant_Bring.l0 k a2 a3 false ((rd_T39 l0 a1_0).f1) (((rd_T39 l0 a1_0).f1).length : Int) 0 a1_0 a1_1 a1_2 l1_3 l1_4 l1_5 l1_6 a1_7 a1_8 a1_9 bt157.1 bt157.2.1 bt157.2.2.1 bt157.2.2.2.1 bt157.2.2.2.2.1 bt157.2.2.2.2.2.1 bt157.2.2.2.2.2.2.1 bt157.2.2.2.2.2.2.2.1 bt157.2.2.2.2.2.2.2.2.1 bt157.2.2.2.2.2.2.2.2.2 ((rd_T39 l0 a1_0).f0) ((rd_T39 l0 a1_0).f1) ((rd_T39 l0 a1_0).f2)) else (none)) else (none))) else (some (0, 0, 0, ([] : List Int), ([] : List Int), ([] : List Int), ([] : List Int), 0, 0, false, 0, t156))) = some (r1, r2, r3, r4, r5, r6, r7, r8, r9, r10, r11, r12) := H
 have A5 := Aside0.mk A50
 clear A50
 by_cases c6 : t156 = 0
 ·rw [if_pos c6] at H
  have c6b0 : (t156 == 0) = true := beq_iff_eq.mpr c6
  have c6b1 : (t156 != 0) = false := bne_eq_false_iff_eq.mpr c6
  clear c6
  replace H := Option.bind_eq_some_iff.mp H
  obtain ⟨⟨t157, t158, t159, t160, t163, t166, t169, t172, t173, t174⟩, A70, H⟩ := H
  replace H : (if 0 ≤ a1_0 then (if a1_0 < (l0.length : Int) then (plant_Bring.l0 k a2 a3 false ((rd_T39 l0 a1_0).f1) (((rd_T39 l0 a1_0).f1).length : Int) 0 a1_0 a1_1 a1_2 l1_3 l1_4 l1_5 l1_6 a1_7 a1_8 a1_9 t157 t158 t159 t160 t163 t166 t169 t172 t173 t174 ((rd_T39 l0 a1_0).f0) ((rd_T39 l0 a1_0).f1) ((rd_T39 l0 a1_0).f2)) else (none)) else (none)) = some (r1, r2, r3, r4, r5, r6, r7, r8, r9, r10, r11, r12) := H
  have A7 := Aside0.mk A70
  clear A70
  by_cases c8 : 0 ≤ a1_0
  ·rw [if_pos c8] at H
   have c8b0 : decide (0 ≤ a1_0) = true := decide_eq_true c8
   clear c8
   by_cases c9 : a1_0 < (l0.length : Int)
   ·rw [if_pos c9] at H
    have c9b0 : decide (a1_0 < (l0.length : Int)) = true := decide_eq_true c9
    clear c9
    have H' := Aside0.mk H
    clear H
    go_enter Try.func20, Try.ntmps20
    go_wp2_with (first | ((with_reducible refine gate_dst (N := 5) rfl ?_); refine box_event ?hg (N := 5) ?hd (cs := #[.int .i64 a1_0, .int .i64 a1_1, .int .i64 a1_2, .slice A1_3 l1_3.length c1_3, .slice A1_4 l1_4.length c1_4, .slice A1_5 l1_5.length c1_5, .slice A1_6 l1_6.length c1_6, .int .i64 a1_7, .int .i64 a1_8, .bool a1_9]) (t := 25) ?hr ?_; (case hd => rfl); (case hg => rfl); (case hr => first | (go_simp; done) | (go_simp; rfl)); intro gb154 hg w10 hbox hb; have BK154 := Aside0.mk (hbox); have GW154 := Aside0.mk ((dS_ hg (dL_ HB) : w.heap.size ≤ gb154)); have GE154 := Aside0.mk ((dS_ hg (dL_ HB) : w.heap.size ≤ gb154)); replace HB := Aside0.mk (below_step (dL_ HB) hb); clear hb hbox hg) | ((with_reducible refine gate_dst (N := 8) rfl ?_); refine box_event ?hg (N := 8) ?hd (cs := #[.int .i64 0, .int .i64 0, .int .i64 0, .slice none 0 0, .slice none 0 0, .slice none 0 0, .slice none 0 0, .int .i64 0, .int .i64 0, .bool false]) (t := 25) ?hr ?_; (case hd => rfl); (case hg => rfl); (case hr => first | (go_simp; done) | (go_simp; rfl)); intro gb155 hg w11 hbox hb; have BK155 := Aside0.mk (hbox); have GW155 := Aside0.mk ((dS_ hg (dL1_ HB GE154) : w.heap.size ≤ gb155)); have GE155 := Aside0.mk ((dS_ hg (dL1_ HB GE154) : w.heap.size ≤ gb155)); replace HB := Aside0.mk (below_step (dL1_ HB GE154) hb); have NB154_155 := Aside0.mk ((by rw [hg]; exact Nat.ne_of_lt (blk_lt (dB_ BK154)) : gb154 ≠ gb155)); have NB155_154 := Aside0.mk ((by rw [hg]; exact Nat.ne_of_gt (blk_lt (dB_ BK154)) : gb155 ≠ gb154)); replace BK154 := Aside0.mk (blk_below (g := gb154) (o := .cells #[.int .i64 a1_0, .int .i64 a1_1, .int .i64 a1_2, .slice A1_3 l1_3.length c1_3, .slice A1_4 l1_4.length c1_4, .slice A1_5 l1_5.length c1_5, .slice A1_6 l1_6.length c1_6, .int .i64 a1_7, .int .i64 a1_8, .bool a1_9] 25 (0, 0)) (dB_ BK154) hb); clear hb hbox hg; have hnb12 := NB154_155.out; have hnc12 := NB155_154.out; obtain ⟨hcz13_0, hcz13_1, hcz13_2, hcz13_3, hcz13_4, hcz13_5, hcz13_6, hcz13_7, hcz13_8, hcz13_9, hfz13_0, hfz13_1, hfz13_2, hfz13_3, hfz13_4, hfz13_5, hfz13_6, hfz13_7, hfz13_8, hfz13_9⟩ := cs10_ BK154.out) | ((with_reducible refine gate_callee (f := 38) rfl ?_); refine goesL_ (some 24) rfl rfl Try.func38 (by kernel_rfl) rfl #[.slice A0 l0.length c0, .agg #[.int .i64 a1_0, .int .i64 a1_1, .int .i64 a1_2, .slice A1_3 l1_3.length c1_3, .slice A1_4 l1_4.length c1_4, .slice A1_5 l1_5.length c1_5, .slice A1_6 l1_6.length c1_6, .int .i64 a1_7, .int .i64 a1_8, .bool a1_9], .int .i64 a2, .int .i64 a3] rfl tA_ ?_; (with_reducible refine (plant_argued.calls k _ _ l0 a1_0 a1_1 a1_2 _ _ l1_3 _ _ l1_4 _ _ l1_5 _ _ l1_6 a1_7 a1_8 a1_9 a2 a3 t156 _ ?side1 ?side2 ?side3 ?side4 ?side5 ?side6 ?side7 ?side8 ?side9 ?side10 A5.out).mono ?_); (case side1 => exact dC_ HR0 HB); (case side2 => exact HC0.out); (case side3 => exact dC_ HR1_3 HB); (case side4 => exact HC1_3.out); (case side5 => exact dC_ HR1_4 HB); (case side6 => exact HC1_4.out); (case side7 => exact dC_ HR1_5 HB); (case side8 => exact HC1_5.out); (case side9 => exact dC_ HR1_6 HB); (case side10 => exact HC1_6.out); rintro e w14 ⟨rfl, hb⟩; refine ⟨_, rfl, ?_⟩; replace BK154 := Aside0.mk (blk_below (g := gb154) (o := .cells #[.int .i64 a1_0, .int .i64 a1_1, .int .i64 a1_2, .slice A1_3 l1_3.length c1_3, .slice A1_4 l1_4.length c1_4, .slice A1_5 l1_5.length c1_5, .slice A1_6 l1_6.length c1_6, .int .i64 a1_7, .int .i64 a1_8, .bool a1_9] 25 (0, 0)) (dB_ BK154) hb); replace BK155 := Aside0.mk (blk_below (g := gb155) (o := .cells #[.int .i64 0, .int .i64 0, .int .i64 0, .slice none 0 0, .slice none 0 0, .slice none 0 0, .slice none 0 0, .int .i64 0, .int .i64 0, .bool false] 25 (0, 0)) (dB_ BK155) hb); replace HB := Aside0.mk (below_step (dL2_ HB GE154 GE155) hb); obtain ⟨hcz15_0, hcz15_1, hcz15_2, hcz15_3, hcz15_4, hcz15_5, hcz15_6, hcz15_7, hcz15_8, hcz15_9, hfz15_0, hfz15_1, hfz15_2, hfz15_3, hfz15_4, hfz15_5, hfz15_6, hfz15_7, hfz15_8, hfz15_9⟩ := cs10_ BK154.out) | ((with_reducible refine gate_callee (f := 39) rfl ?_); refine goesL_ (some 30) rfl rfl Try.func39 (by kernel_rfl) rfl #[.agg #[.int .i64 a1_0, .int .i64 a1_1, .int .i64 a1_2, .slice A1_3 l1_3.length c1_3, .slice A1_4 l1_4.length c1_4, .slice A1_5 l1_5.length c1_5, .slice A1_6 l1_6.length c1_6, .int .i64 a1_7, .int .i64 a1_8, .bool a1_9]] rfl tA_ ?_; (with_reducible refine (plant_clone.calls a1_0 a1_1 a1_2 _ _ l1_3 _ _ l1_4 _ _ l1_5 _ _ l1_6 a1_7 a1_8 a1_9 t157 t158 t159 t160 t163 t166 t169 t172 t173 t174 _ ?side1 ?side2 ?side3 ?side4 ?side5 ?side6 ?side7 ?side8 A7.out).mono ?_); (case side1 => exact dC_ HR1_3 HB); (case side2 => exact HC1_3.out); (case side3 => exact dC_ HR1_4 HB); (case side4 => exact HC1_4.out); (case side5 => exact dC_ HR1_5 HB); (case side6 => exact HC1_5.out); (case side7 => exact dC_ HR1_6 HB); (case side8 => exact HC1_6.out); rintro e w16 ⟨v161, v164, v167, v170, rfl, ho0, ho1, ho2, ho3, hb⟩; refine ⟨_, rfl, ?_⟩; have HO162 := Aside0.mk (Kd.R_lower ho0 (below_size (dL2_ HB GE154 GE155))); have HO165 := Aside0.mk (Kd.R_lower ho1 (below_size (dL2_ HB GE154 GE155))); have HO168 := Aside0.mk (Kd.R_lower ho2 (below_size (dL2_ HB GE154 GE155))); have HO171 := Aside0.mk (Kd.R_lower ho3 (below_size (dL2_ HB GE154 GE155))); replace BK154 := Aside0.mk (blk_below (g := gb154) (o := .cells #[.int .i64 a1_0, .int .i64 a1_1, .int .i64 a1_2, .slice A1_3 l1_3.length c1_3, .slice A1_4 l1_4.length c1_4, .slice A1_5 l1_5.length c1_5, .slice A1_6 l1_6.length c1_6, .int .i64 a1_7, .int .i64 a1_8, .bool a1_9] 25 (0, 0)) (dB_ BK154) hb); replace BK155 := Aside0.mk (blk_below (g := gb155) (o := .cells #[.int .i64 0, .int .i64 0, .int .i64 0, .slice none 0 0, .slice none 0 0, .slice none 0 0, .slice none 0 0, .int .i64 0, .int .i64 0, .bool false] 25 (0, 0)) (dB_ BK155) hb); replace HB := Aside0.mk (below_step (dL2_ HB GE154 GE155) hb)) | ((with_reducible refine gate_dst (N := 12) rfl ?_); refine box_event ?hg (N := 12) ?hd (cs := #[.int .i64 0, .int .i64 0, .int .i64 0, .slice none 0 0, .slice none 0 0, .slice none 0 0, .slice none 0 0, .int .i64 0, .int .i64 0, .bool false]) (t := 25) ?hr ?_; (case hd => rfl); (case hg => rfl); (case hr => first | (go_simp; done) | (go_simp; rfl)); intro gb175 hg w17 hbox hb; replace HO162 := Aside0.mk (Kd.R_below (dR_ HO162) hb); replace HO165 := Aside0.mk (Kd.R_below (dR_ HO165) hb); replace HO168 := Aside0.mk (Kd.R_below (dR_ HO168) hb); replace HO171 := Aside0.mk (Kd.R_below (dR_ HO171) hb); have BK175 := Aside0.mk (hbox); have GW175 := Aside0.mk ((dS_ hg (dL2_ HB GE154 GE155) : w.heap.size ≤ gb175)); have GE175 := Aside0.mk ((dS_ hg (dL2_ HB GE154 GE155) : w.heap.size ≤ gb175)); replace HB := Aside0.mk (below_step (dL2_ HB GE154 GE155) hb); have NB154_175 := Aside0.mk ((by rw [hg]; exact Nat.ne_of_lt (blk_lt (dB_ BK154)) : gb154 ≠ gb175)); have NB175_154 := Aside0.mk ((by rw [hg]; exact Nat.ne_of_gt (blk_lt (dB_ BK154)) : gb175 ≠ gb154)); replace BK154 := Aside0.mk (blk_below (g := gb154) (o := .cells #[.int .i64 a1_0, .int .i64 a1_1, .int .i64 a1_2, .slice A1_3 l1_3.length c1_3, .slice A1_4 l1_4.length c1_4, .slice A1_5 l1_5.length c1_5, .slice A1_6 l1_6.length c1_6, .int .i64 a1_7, .int .i64 a1_8, .bool a1_9] 25 (0, 0)) (dB_ BK154) hb); have NB155_175 := Aside0.mk ((by rw [hg]; exact Nat.ne_of_lt (blk_lt (dB_ BK155)) : gb155 ≠ gb175)); have NB175_155 := Aside0.mk ((by rw [hg]; exact Nat.ne_of_gt (blk_lt (dB_ BK155)) : gb175 ≠ gb155)); replace BK155 := Aside0.mk (blk_below (g := gb155) (o := .cells #[.int .i64 0, .int .i64 0, .int .i64 0, .slice none 0 0, .slice none 0 0, .slice none 0 0, .slice none 0 0, .int .i64 0, .int .i64 0, .bool false] 25 (0, 0)) (dB_ BK155) hb); clear hb hbox hg; have hnb18 := NB175_154.out; have hnc18 := NB154_175.out; have hnb19 := NB175_155.out; have hnc19 := NB155_175.out; obtain ⟨hcz20_0, hcz20_1, hcz20_2, hcz20_3, hcz20_4, hcz20_5, hcz20_6, hcz20_7, hcz20_8, hcz20_9, hfz20_0, hfz20_1, hfz20_2, hfz20_3, hfz20_4, hfz20_5, hfz20_6, hfz20_7, hfz20_8, hfz20_9⟩ := cs10_ BK175.out; obtain ⟨Ao21, co21, eo21⟩ := Kd.R_slice HO162.out; subst eo21; obtain ⟨Ao22, co22, eo22⟩ := Kd.R_slice HO165.out; subst eo22; obtain ⟨Ao23, co23, eo23⟩ := Kd.R_slice HO168.out; subst eo23; obtain ⟨Ao24, co24, eo24⟩ := Kd.R_slice HO171.out; subst eo24; obtain ⟨hcz25_0, hcz25_1, hcz25_2, hcz25_3, hcz25_4, hcz25_5, hcz25_6, hcz25_7, hcz25_8, hcz25_9, hfz25_0, hfz25_1, hfz25_2, hfz25_3, hfz25_4, hfz25_5, hfz25_6, hfz25_7, hfz25_8, hfz25_9⟩ := cs10_ BK154.out; have p176 : 0 ≤ (a1_0 : Int) := of_decide_eq_true tW_; have q176 : a1_0 < (l0.length : Int) := of_decide_eq_true tW_; obtain ⟨ad176, A176_1, c176_1, A176_2, c176_2, e176, hx176_0, hx176_1, hx176_2, hl176_1, hi176_1, hl176_2, hi176_2⟩ := at_T39 HR0.out a1_0 p176 q176; cases e176; have hn176_0 : ad176.block ≠ gb175 := Nat.ne_of_lt (Nat.lt_of_lt_of_le (by have := World.block_lt_of_cell? _ _ hx176_0; first | rwa [add_block] at this | exact this) GW175.out); have hn176_1 : ad176.block ≠ gb175 := Nat.ne_of_lt (Nat.lt_of_lt_of_le (by have := World.block_lt_of_cell? _ _ hx176_0; first | rwa [add_block] at this | exact this) GW175.out); have hn176_2 : ad176.block ≠ gb175 := Nat.ne_of_lt (Nat.lt_of_lt_of_le (by have := World.block_lt_of_cell? _ _ hx176_0; first | rwa [add_block] at this | exact this) GW175.out); have hn176_3 : ad176.block ≠ gb175 := Nat.ne_of_lt (Nat.lt_of_lt_of_le (by have := World.block_lt_of_cell? _ _ hx176_0; first | rwa [add_block] at this | exact this) GW175.out); have hn176_4 : ad176.block ≠ gb175 := Nat.ne_of_lt (Nat.lt_of_lt_of_le (by have := World.block_lt_of_cell? _ _ hx176_0; first | rwa [add_block] at this | exact this) GW175.out); have hn176_5 : ad176.block ≠ gb175 := Nat.ne_of_lt (Nat.lt_of_lt_of_le (by have := World.block_lt_of_cell? _ _ hx176_0; first | rwa [add_block] at this | exact this) GW175.out); have hn176_6 : ad176.block ≠ gb175 := Nat.ne_of_lt (Nat.lt_of_lt_of_le (by have := World.block_lt_of_cell? _ _ hx176_0; first | rwa [add_block] at this | exact this) GW175.out); have hn176_7 : ad176.block ≠ gb175 := Nat.ne_of_lt (Nat.lt_of_lt_of_le (by have := World.block_lt_of_cell? _ _ hx176_0; first | rwa [add_block] at this | exact this) GW175.out); have hn176_8 : ad176.block ≠ gb175 := Nat.ne_of_lt (Nat.lt_of_lt_of_le (by have := World.block_lt_of_cell? _ _ hx176_0; first | rwa [add_block] at this | exact this) GW175.out); have hn176_9 : ad176.block ≠ gb175 := Nat.ne_of_lt (Nat.lt_of_lt_of_le (by have := World.block_lt_of_cell? _ _ hx176_0; first | rwa [add_block] at this | exact this) GW175.out); replace hx176_0 := bc_ HB hx176_0; replace hx176_1 := bc_ HB hx176_1; replace hx176_2 := bc_ HB hx176_2; have HR176_1 := Aside0.mk hi176_1; have HC176_1 := Aside0.mk hl176_1; clear hi176_1 hl176_1; have HR176_2 := Aside0.mk hi176_2; have HC176_2 := Aside0.mk hl176_2; clear hi176_2 hl176_2; replace hx176_0 := (cell_far (p := ⟨gb175, 0, none⟩) (aB_ hn176_0) (.int .i64 t157)).trans hx176_0; replace hx176_1 := (cell_far (p := ⟨gb175, 0, none⟩) (aB_ hn176_0) (.int .i64 t157)).trans hx176_1; replace hx176_2 := (cell_far (p := ⟨gb175, 0, none⟩) (aB_ hn176_0) (.int .i64 t157)).trans hx176_2; replace hx176_0 := (cell_far (p := ⟨gb175, 1, none⟩) (aB_ hn176_1) (.int .i64 t158)).trans hx176_0; replace hx176_1 := (cell_far (p := ⟨gb175, 1, none⟩) (aB_ hn176_1) (.int .i64 t158)).trans hx176_1; replace hx176_2 := (cell_far (p := ⟨gb175, 1, none⟩) (aB_ hn176_1) (.int .i64 t158)).trans hx176_2; replace hx176_0 := (cell_far (p := ⟨gb175, 2, none⟩) (aB_ hn176_2) (.int .i64 t159)).trans hx176_0; replace hx176_1 := (cell_far (p := ⟨gb175, 2, none⟩) (aB_ hn176_2) (.int .i64 t159)).trans hx176_1; replace hx176_2 := (cell_far (p := ⟨gb175, 2, none⟩) (aB_ hn176_2) (.int .i64 t159)).trans hx176_2; replace hx176_0 := (cell_far (p := ⟨gb175, 3, none⟩) (aB_ hn176_3) (.slice Ao21 t160.length co21)).trans hx176_0; replace hx176_1 := (cell_far (p := ⟨gb175, 3, none⟩) (aB_ hn176_3) (.slice Ao21 t160.length co21)).trans hx176_1; replace hx176_2 := (cell_far (p := ⟨gb175, 3, none⟩) (aB_ hn176_3) (.slice Ao21 t160.length co21)).trans hx176_2; replace hx176_0 := (cell_far (p := ⟨gb175, 4, none⟩) (aB_ hn176_4) (.slice Ao22 t163.length co22)).trans hx176_0; replace hx176_1 := (cell_far (p := ⟨gb175, 4, none⟩) (aB_ hn176_4) (.slice Ao22 t163.length co22)).trans hx176_1; replace hx176_2 := (cell_far (p := ⟨gb175, 4, none⟩) (aB_ hn176_4) (.slice Ao22 t163.length co22)).trans hx176_2; replace hx176_0 := (cell_far (p := ⟨gb175, 5, none⟩) (aB_ hn176_5) (.slice Ao23 t166.length co23)).trans hx176_0; replace hx176_1 := (cell_far (p := ⟨gb175, 5, none⟩) (aB_ hn176_5) (.slice Ao23 t166.length co23)).trans hx176_1; replace hx176_2 := (cell_far (p := ⟨gb175, 5, none⟩) (aB_ hn176_5) (.slice Ao23 t166.length co23)).trans hx176_2; replace hx176_0 := (cell_far (p := ⟨gb175, 6, none⟩) (aB_ hn176_6) (.slice Ao24 t169.length co24)).trans hx176_0; replace hx176_1 := (cell_far (p := ⟨gb175, 6, none⟩) (aB_ hn176_6) (.slice Ao24 t169.length co24)).trans hx176_1; replace hx176_2 := (cell_far (p := ⟨gb175, 6, none⟩) (aB_ hn176_6) (.slice Ao24 t169.length co24)).trans hx176_2; replace hx176_0 := (cell_far (p := ⟨gb175, 7, none⟩) (aB_ hn176_7) (.int .i64 t172)).trans hx176_0; replace hx176_1 := (cell_far (p := ⟨gb175, 7, none⟩) (aB_ hn176_7) (.int .i64 t172)).trans hx176_1; replace hx176_2 := (cell_far (p := ⟨gb175, 7, none⟩) (aB_ hn176_7) (.int .i64 t172)).trans hx176_2; replace hx176_0 := (cell_far (p := ⟨gb175, 8, none⟩) (aB_ hn176_8) (.int .i64 t173)).trans hx176_0; replace hx176_1 := (cell_far (p := ⟨gb175, 8, none⟩) (aB_ hn176_8) (.int .i64 t173)).trans hx176_1; replace hx176_2 := (cell_far (p := ⟨gb175, 8, none⟩) (aB_ hn176_8) (.int .i64 t173)).trans hx176_2; replace hx176_0 := (cell_far (p := ⟨gb175, 9, none⟩) (aB_ hn176_9) (.bool t174)).trans hx176_0; replace hx176_1 := (cell_far (p := ⟨gb175, 9, none⟩) (aB_ hn176_9) (.bool t174)).trans hx176_1; replace hx176_2 := (cell_far (p := ⟨gb175, 9, none⟩) (aB_ hn176_9) (.bool t174)).trans hx176_2; clear hn176_0; clear hn176_1; clear hn176_2; clear hn176_3; clear hn176_4; clear hn176_5; clear hn176_6; clear hn176_7; clear hn176_8; clear hn176_9; replace p176 := eq_true p176; replace q176 := eq_true q176) | ((with_reducible refine gate_dst (N := 13) rfl ?_); refine box_event ?hg (N := 13) ?hd (cs := #[.string (⟨#[]⟩ : ByteArray), .slice none 0 0, .slice none 0 0]) (t := 39) ?hr ?_; (case hd => rfl); (case hg => rfl); (case hr => first | (go_simp; done) | (go_simp; rfl)); intro gb177 hg w26 hbox hb; replace HO162 := Aside0.mk (Kd.R_below (by (with_reducible repeat (first | apply Kd.R_alloc | apply Kd.R_drewN | apply Kd.R_drew)); exact (Kd.R_mono (far10_ (Kd.R_types HO162.out BK175.out (by decide)) gb175 (fun _ hk => hk.2) (.int .i64 t157) (.int .i64 t158) (.int .i64 t159) (.slice Ao21 t160.length co21) (.slice Ao22 t163.length co22) (.slice Ao23 t166.length co23) (.slice Ao24 t169.length co24) (.int .i64 t172) (.int .i64 t173) (.bool t174)) (fun _ h_ => h_.1))) hb); replace HO165 := Aside0.mk (Kd.R_below (by (with_reducible repeat (first | apply Kd.R_alloc | apply Kd.R_drewN | apply Kd.R_drew)); exact (Kd.R_mono (far10_ (Kd.R_types HO165.out BK175.out (by decide)) gb175 (fun _ hk => hk.2) (.int .i64 t157) (.int .i64 t158) (.int .i64 t159) (.slice Ao21 t160.length co21) (.slice Ao22 t163.length co22) (.slice Ao23 t166.length co23) (.slice Ao24 t169.length co24) (.int .i64 t172) (.int .i64 t173) (.bool t174)) (fun _ h_ => h_.1))) hb); replace HO168 := Aside0.mk (Kd.R_below (by (with_reducible repeat (first | apply Kd.R_alloc | apply Kd.R_drewN | apply Kd.R_drew)); exact (Kd.R_mono (far10_ (Kd.R_types HO168.out BK175.out (by decide)) gb175 (fun _ hk => hk.2) (.int .i64 t157) (.int .i64 t158) (.int .i64 t159) (.slice Ao21 t160.length co21) (.slice Ao22 t163.length co22) (.slice Ao23 t166.length co23) (.slice Ao24 t169.length co24) (.int .i64 t172) (.int .i64 t173) (.bool t174)) (fun _ h_ => h_.1))) hb); replace HO171 := Aside0.mk (Kd.R_below (by (with_reducible repeat (first | apply Kd.R_alloc | apply Kd.R_drewN | apply Kd.R_drew)); exact (Kd.R_mono (far10_ (Kd.R_types HO171.out BK175.out (by decide)) gb175 (fun _ hk => hk.2) (.int .i64 t157) (.int .i64 t158) (.int .i64 t159) (.slice Ao21 t160.length co21) (.slice Ao22 t163.length co22) (.slice Ao23 t166.length co23) (.slice Ao24 t169.length co24) (.int .i64 t172) (.int .i64 t173) (.bool t174)) (fun _ h_ => h_.1))) hb); have BK177 := Aside0.mk (hbox); have GW177 := Aside0.mk ((dS_ hg (dL3_ HB GE154 GE155 GE175) : w.heap.size ≤ gb177)); have GE177 := Aside0.mk ((dS_ hg (dL3_ HB GE154 GE155 GE175) : w.heap.size ≤ gb177)); replace HB := Aside0.mk (below_step (dL3_ HB GE154 GE155 GE175) hb); have NB154_177 := Aside0.mk ((by rw [hg]; exact Nat.ne_of_lt (blk_lt (g := gb154) (o := .cells #[.int .i64 a1_0, .int .i64 a1_1, .int .i64 a1_2, .slice A1_3 l1_3.length c1_3, .slice A1_4 l1_4.length c1_4, .slice A1_5 l1_5.length c1_5, .slice A1_6 l1_6.length c1_6, .int .i64 a1_7, .int .i64 a1_8, .bool a1_9] 25 (0, 0)) (dF10_ BK154 NB154_175)) : gb154 ≠ gb177)); have NB177_154 := Aside0.mk ((by rw [hg]; exact Nat.ne_of_gt (blk_lt (g := gb154) (o := .cells #[.int .i64 a1_0, .int .i64 a1_1, .int .i64 a1_2, .slice A1_3 l1_3.length c1_3, .slice A1_4 l1_4.length c1_4, .slice A1_5 l1_5.length c1_5, .slice A1_6 l1_6.length c1_6, .int .i64 a1_7, .int .i64 a1_8, .bool a1_9] 25 (0, 0)) (dF10_ BK154 NB154_175)) : gb177 ≠ gb154)); replace BK154 := Aside0.mk (blk_below (g := gb154) (o := .cells #[.int .i64 a1_0, .int .i64 a1_1, .int .i64 a1_2, .slice A1_3 l1_3.length c1_3, .slice A1_4 l1_4.length c1_4, .slice A1_5 l1_5.length c1_5, .slice A1_6 l1_6.length c1_6, .int .i64 a1_7, .int .i64 a1_8, .bool a1_9] 25 (0, 0)) (dF10_ BK154 NB154_175) hb); have NB155_177 := Aside0.mk ((by rw [hg]; exact Nat.ne_of_lt (blk_lt (g := gb155) (o := .cells #[.int .i64 0, .int .i64 0, .int .i64 0, .slice none 0 0, .slice none 0 0, .slice none 0 0, .slice none 0 0, .int .i64 0, .int .i64 0, .bool false] 25 (0, 0)) (dF10_ BK155 NB155_175)) : gb155 ≠ gb177)); have NB177_155 := Aside0.mk ((by rw [hg]; exact Nat.ne_of_gt (blk_lt (g := gb155) (o := .cells #[.int .i64 0, .int .i64 0, .int .i64 0, .slice none 0 0, .slice none 0 0, .slice none 0 0, .slice none 0 0, .int .i64 0, .int .i64 0, .bool false] 25 (0, 0)) (dF10_ BK155 NB155_175)) : gb177 ≠ gb155)); replace BK155 := Aside0.mk (blk_below (g := gb155) (o := .cells #[.int .i64 0, .int .i64 0, .int .i64 0, .slice none 0 0, .slice none 0 0, .slice none 0 0, .slice none 0 0, .int .i64 0, .int .i64 0, .bool false] 25 (0, 0)) (dF10_ BK155 NB155_175) hb); have NB175_177 := Aside0.mk ((by rw [hg]; exact Nat.ne_of_lt (blk_lt (g := gb175) (o := .cells #[.int .i64 t157, .int .i64 t158, .int .i64 t159, .slice Ao21 t160.length co21, .slice Ao22 t163.length co22, .slice Ao23 t166.length co23, .slice Ao24 t169.length co24, .int .i64 t172, .int .i64 t173, .bool t174] 25 (0, 0)) (dP10_ BK175)) : gb175 ≠ gb177)); have NB177_175 := Aside0.mk ((by rw [hg]; exact Nat.ne_of_gt (blk_lt (g := gb175) (o := .cells #[.int .i64 t157, .int .i64 t158, .int .i64 t159, .slice Ao21 t160.length co21, .slice Ao22 t163.length co22, .slice Ao23 t166.length co23, .slice Ao24 t169.length co24, .int .i64 t172, .int .i64 t173, .bool t174] 25 (0, 0)) (dP10_ BK175)) : gb177 ≠ gb175)); replace BK175 := Aside0.mk (blk_below (g := gb175) (o := .cells #[.int .i64 t157, .int .i64 t158, .int .i64 t159, .slice Ao21 t160.length co21, .slice Ao22 t163.length co22, .slice Ao23 t166.length co23, .slice Ao24 t169.length co24, .int .i64 t172, .int .i64 t173, .bool t174] 25 (0, 0)) (dP10_ BK175) hb); clear hb hbox hg; have hnb27 := NB177_154.out; have hnc27 := NB154_177.out; have hnb28 := NB177_155.out; have hnc28 := NB155_177.out; have hnb29 := NB177_175.out; have hnc29 := NB175_177.out; obtain ⟨hcz30_0, hcz30_1, hcz30_2, hfz30_0, hfz30_1, hfz30_2⟩ := cs3_ BK177.out))
    go_loopg [14, 39] k (fun kq v14 v39 w' => ∃ (x14_1 : Bool) (x39_1 : Int), v14 = .bool x14_1 ∧ v39 = .int .i64 x39_1 ∧ Aside0 (plant_Bring.l0 kq a2 a3 x14_1 ((rd_T39 l0 a1_0).f1) (((rd_T39 l0 a1_0).f1).length : Int) x39_1 a1_0 a1_1 a1_2 l1_3 l1_4 l1_5 l1_6 a1_7 a1_8 a1_9 t157 t158 t159 t160 t163 t166 t169 t172 t173 t174 ((rd_T39 l0 a1_0).f0) ((rd_T39 l0 a1_0).f1) ((rd_T39 l0 a1_0).f2) = some (r1, r2, r3, r4, r5, r6, r7, r8, r9, r10, r11, r12)) ∧ Aside0 (kq ≤ k) ∧ Aside0 (Kd.R (Kd.int .i64) 3 w' w.heap.size (fun k_ => some k_ ≠ ((.slice Ao22 t163.length co22) : Value).ownBlock ∧ some k_ ≠ ((.slice Ao23 t166.length co23) : Value).ownBlock ∧ some k_ ≠ ((.slice Ao24 t169.length co24) : Value).ownBlock) (.slice Ao21 t160.length co21) t160) ∧ Aside0 (Kd.R (Kd.int .i64) 3 w' w.heap.size (fun k_ => some k_ ≠ ((.slice Ao21 t160.length co21) : Value).ownBlock ∧ some k_ ≠ ((.slice Ao23 t166.length co23) : Value).ownBlock ∧ some k_ ≠ ((.slice Ao24 t169.length co24) : Value).ownBlock) (.slice Ao22 t163.length co22) t163) ∧ Aside0 (Kd.R (Kd.int .i64) 3 w' w.heap.size (fun k_ => some k_ ≠ ((.slice Ao21 t160.length co21) : Value).ownBlock ∧ some k_ ≠ ((.slice Ao22 t163.length co22) : Value).ownBlock ∧ some k_ ≠ ((.slice Ao24 t169.length co24) : Value).ownBlock) (.slice Ao23 t166.length co23) t166) ∧ Aside0 (Kd.R (Kd.int .i64) 3 w' w.heap.size (fun k_ => some k_ ≠ ((.slice Ao21 t160.length co21) : Value).ownBlock ∧ some k_ ≠ ((.slice Ao22 t163.length co22) : Value).ownBlock ∧ some k_ ≠ ((.slice Ao23 t166.length co23) : Value).ownBlock) (.slice Ao24 t169.length co24) t169) ∧ Aside0 (w'.heap[gb154]? = some (.cells #[.int .i64 a1_0, .int .i64 a1_1, .int .i64 a1_2, (.slice A1_3 l1_3.length c1_3), (.slice A1_4 l1_4.length c1_4), (.slice A1_5 l1_5.length c1_5), (.slice A1_6 l1_6.length c1_6), .int .i64 a1_7, .int .i64 a1_8, .bool a1_9] 25 (0, 0))) ∧ Aside0 (w'.heap[gb155]? = some (.cells #[.int .i64 0, .int .i64 0, .int .i64 0, (.slice none 0 0), (.slice none 0 0), (.slice none 0 0), (.slice none 0 0), .int .i64 0, .int .i64 0, .bool false] 25 (0, 0))) ∧ Aside0 (w'.heap[gb175]? = some (.cells #[.int .i64 t157, .int .i64 t158, .int .i64 t159, (.slice Ao21 t160.length co21), (.slice Ao22 t163.length co22), (.slice Ao23 t166.length co23), (.slice Ao24 t169.length co24), .int .i64 t172, .int .i64 t173, .bool t174] 25 (0, 0))) ∧ Aside0 (w'.heap[gb177]? = some (.cells #[.string ((rd_T39 l0 a1_0).f0), (.slice A176_1 ((rd_T39 l0 a1_0).f1).length c176_1), (.slice A176_2 ((rd_T39 l0 a1_0).f2).length c176_2)] 39 (0, 0))) ∧ Aside0 (Below w.heap.size w w'))
    case atStart => exact ⟨(false), (0), tS_, tS_, H', ⟨Nat.le_refl _⟩, ⟨by (with_reducible repeat (first | apply Kd.R_alloc | apply Kd.R_drewN | apply Kd.R_drew)); exact Kd.R_mono (Kd.R_far (p := ⟨gb177, 2, none⟩) (Kd.R_far (p := ⟨gb177, 1, none⟩) (Kd.R_far (p := ⟨gb177, 0, none⟩) (Kd.R_types HO162.out BK177.out (by decide)) (fun _ hk => hk.2) (.string ((rd_T39 l0 a1_0).f0))) (fun _ hk => hk.2) (.slice A176_1 ((rd_T39 l0 a1_0).f1).length c176_1)) (fun _ hk => hk.2) (.slice A176_2 ((rd_T39 l0 a1_0).f2).length c176_2)) (fun _ hk => ⟨hk.1.1, ⟨hk.1.2.1, hk.1.2.2⟩⟩)⟩, ⟨by (with_reducible repeat (first | apply Kd.R_alloc | apply Kd.R_drewN | apply Kd.R_drew)); exact Kd.R_mono (Kd.R_far (p := ⟨gb177, 2, none⟩) (Kd.R_far (p := ⟨gb177, 1, none⟩) (Kd.R_far (p := ⟨gb177, 0, none⟩) (Kd.R_types HO165.out BK177.out (by decide)) (fun _ hk => hk.2) (.string ((rd_T39 l0 a1_0).f0))) (fun _ hk => hk.2) (.slice A176_1 ((rd_T39 l0 a1_0).f1).length c176_1)) (fun _ hk => hk.2) (.slice A176_2 ((rd_T39 l0 a1_0).f2).length c176_2)) (fun _ hk => ⟨hk.1.1, ⟨hk.1.2.1, hk.1.2.2⟩⟩)⟩, ⟨by (with_reducible repeat (first | apply Kd.R_alloc | apply Kd.R_drewN | apply Kd.R_drew)); exact Kd.R_mono (Kd.R_far (p := ⟨gb177, 2, none⟩) (Kd.R_far (p := ⟨gb177, 1, none⟩) (Kd.R_far (p := ⟨gb177, 0, none⟩) (Kd.R_types HO168.out BK177.out (by decide)) (fun _ hk => hk.2) (.string ((rd_T39 l0 a1_0).f0))) (fun _ hk => hk.2) (.slice A176_1 ((rd_T39 l0 a1_0).f1).length c176_1)) (fun _ hk => hk.2) (.slice A176_2 ((rd_T39 l0 a1_0).f2).length c176_2)) (fun _ hk => ⟨hk.1.1, ⟨hk.1.2.1, hk.1.2.2⟩⟩)⟩, ⟨by (with_reducible repeat (first | apply Kd.R_alloc | apply Kd.R_drewN | apply Kd.R_drew)); exact Kd.R_mono (Kd.R_far (p := ⟨gb177, 2, none⟩) (Kd.R_far (p := ⟨gb177, 1, none⟩) (Kd.R_far (p := ⟨gb177, 0, none⟩) (Kd.R_types HO171.out BK177.out (by decide)) (fun _ hk => hk.2) (.string ((rd_T39 l0 a1_0).f0))) (fun _ hk => hk.2) (.slice A176_1 ((rd_T39 l0 a1_0).f1).length c176_1)) (fun _ hk => hk.2) (.slice A176_2 ((rd_T39 l0 a1_0).f2).length c176_2)) (fun _ hk => ⟨hk.1.1, ⟨hk.1.2.1, hk.1.2.2⟩⟩)⟩, ⟨by (with_reducible repeat (first | refine blk_drewN ?_ _ | refine blk_drew ?_ | refine blk_alloc ?_ _)); refine blk_far ?_ NB154_177.out _; (with_reducible repeat (first | refine blk_drewN ?_ _ | refine blk_drew ?_ | refine blk_alloc ?_ _)); refine blk_far ?_ NB154_177.out _; (with_reducible repeat (first | refine blk_drewN ?_ _ | refine blk_drew ?_ | refine blk_alloc ?_ _)); refine blk_far ?_ NB154_177.out _; (with_reducible repeat (first | refine blk_drewN ?_ _ | refine blk_drew ?_ | refine blk_alloc ?_ _)); exact BK154.out⟩, ⟨by (with_reducible repeat (first | refine blk_drewN ?_ _ | refine blk_drew ?_ | refine blk_alloc ?_ _)); refine blk_far ?_ NB155_177.out _; (with_reducible repeat (first | refine blk_drewN ?_ _ | refine blk_drew ?_ | refine blk_alloc ?_ _)); refine blk_far ?_ NB155_177.out _; (with_reducible repeat (first | refine blk_drewN ?_ _ | refine blk_drew ?_ | refine blk_alloc ?_ _)); refine blk_far ?_ NB155_177.out _; (with_reducible repeat (first | refine blk_drewN ?_ _ | refine blk_drew ?_ | refine blk_alloc ?_ _)); exact BK155.out⟩, ⟨by (with_reducible repeat (first | refine blk_drewN ?_ _ | refine blk_drew ?_ | refine blk_alloc ?_ _)); refine blk_far ?_ NB175_177.out _; (with_reducible repeat (first | refine blk_drewN ?_ _ | refine blk_drew ?_ | refine blk_alloc ?_ _)); refine blk_far ?_ NB175_177.out _; (with_reducible repeat (first | refine blk_drewN ?_ _ | refine blk_drew ?_ | refine blk_alloc ?_ _)); refine blk_far ?_ NB175_177.out _; (with_reducible repeat (first | refine blk_drewN ?_ _ | refine blk_drew ?_ | refine blk_alloc ?_ _)); exact BK175.out⟩, ⟨by (with_reducible repeat (first | refine blk_drewN ?_ _ | refine blk_drew ?_ | refine blk_alloc ?_ _)); refine blk_put (cs := #[.string ((rd_T39 l0 a1_0).f0), .slice A176_1 ((rd_T39 l0 a1_0).f1).length c176_1, .slice none 0 0]) ?_ 2 _ rfl; (with_reducible repeat (first | refine blk_drewN ?_ _ | refine blk_drew ?_ | refine blk_alloc ?_ _)); refine blk_put (cs := #[.string ((rd_T39 l0 a1_0).f0), .slice none 0 0, .slice none 0 0]) ?_ 1 _ rfl; (with_reducible repeat (first | refine blk_drewN ?_ _ | refine blk_drew ?_ | refine blk_alloc ?_ _)); refine blk_put (cs := #[.string (⟨#[]⟩ : ByteArray), .slice none 0 0, .slice none 0 0]) ?_ 0 _ rfl; (with_reducible repeat (first | refine blk_drewN ?_ _ | refine blk_drew ?_ | refine blk_alloc ?_ _)); exact BK177.out⟩, ⟨dL4_ HB GE154 GE155 GE175 GE177⟩⟩
    case round =>
     clear H'
     try clear c6
     try clear c6b0
     try clear c6b1
     try clear c8
     try clear c8b0
     try clear c9
     try clear c9b0
     try clear hcz13_0
     try clear hcz13_1
     try clear hcz13_2
     try clear hcz13_3
     try clear hcz13_4
     try clear hcz13_5
     try clear hcz13_6
     try clear hcz13_7
     try clear hcz13_8
     try clear hcz13_9
     try clear hcz15_0
     try clear hcz15_1
     try clear hcz15_2
     try clear hcz15_3
     try clear hcz15_4
     try clear hcz15_5
     try clear hcz15_6
     try clear hcz15_7
     try clear hcz15_8
     try clear hcz15_9
     try clear hcz20_0
     try clear hcz20_1
     try clear hcz20_2
     try clear hcz20_3
     try clear hcz20_4
     try clear hcz20_5
     try clear hcz20_6
     try clear hcz20_7
     try clear hcz20_8
     try clear hcz20_9
     try clear hcz25_0
     try clear hcz25_1
     try clear hcz25_2
     try clear hcz25_3
     try clear hcz25_4
     try clear hcz25_5
     try clear hcz25_6
     try clear hcz25_7
     try clear hcz25_8
     try clear hcz25_9
     try clear hcz30_0
     try clear hcz30_1
     try clear hcz30_2
     try clear hfz13_0
     try clear hfz13_1
     try clear hfz13_2
     try clear hfz13_3
     try clear hfz13_4
     try clear hfz13_5
     try clear hfz13_6
     try clear hfz13_7
     try clear hfz13_8
     try clear hfz13_9
     try clear hfz15_0
     try clear hfz15_1
     try clear hfz15_2
     try clear hfz15_3
     try clear hfz15_4
     try clear hfz15_5
     try clear hfz15_6
     try clear hfz15_7
     try clear hfz15_8
     try clear hfz15_9
     try clear hfz20_0
     try clear hfz20_1
     try clear hfz20_2
     try clear hfz20_3
     try clear hfz20_4
     try clear hfz20_5
     try clear hfz20_6
     try clear hfz20_7
     try clear hfz20_8
     try clear hfz20_9
     try clear hfz25_0
     try clear hfz25_1
     try clear hfz25_2
     try clear hfz25_3
     try clear hfz25_4
     try clear hfz25_5
     try clear hfz25_6
     try clear hfz25_7
     try clear hfz25_8
     try clear hfz25_9
     try clear hfz30_0
     try clear hfz30_1
     try clear hfz30_2
     try clear hx176_0
     try clear hx176_1
     try clear hx176_2
     try clear p176
     try clear q176
     obtain ⟨x14_1, x39_1, rfl, rfl, HA, HK1, HO_176003, HO_176004, HO_176005, HO_176006, BK154, BK155, BK175, BK177, HB⟩ := hrel
     cases gk with
     | zero => exact absurd HA.out (by simp [plant_Bring.l0])
     | succ k1 =>
      have H := HA.out
      clear HA
      simp only [plant_Bring.l0] at H
      by_cases c31 : x39_1 < (((rd_T39 l0 a1_0).f1).length : Int)
      ·rw [if_pos c31] at H
       have c31b0 : decide (x39_1 < (((rd_T39 l0 a1_0).f1).length : Int)) = true := decide_eq_true c31
       clear c31
       by_cases c32 : 0 ≤ x39_1
       ·rw [if_pos c32] at H
        have c32b0 : decide (0 ≤ x39_1) = true := decide_eq_true c32
        clear c32
        by_cases c33 : x39_1 < (((rd_T39 l0 a1_0).f1).length : Int)
        ·rw [if_pos c33] at H
         have c33b0 : decide (x39_1 < (((rd_T39 l0 a1_0).f1).length : Int)) = true := decide_eq_true c33
         clear c33
         by_cases c34 : x14_1 = true
         ·subst c34
          have H1 : (plant_Bring.l0 k1 a2 a3 true ((rd_T39 l0 a1_0).f1) (((rd_T39 l0 a1_0).f1).length : Int) (wrap64 (x39_1 + 1)) a1_0 a1_1 a1_2 l1_3 l1_4 l1_5 l1_6 a1_7 a1_8 a1_9 t157 t158 t159 t160 t163 t166 t169 t172 t173 t174 ((rd_T39 l0 a1_0).f0) ((rd_T39 l0 a1_0).f1) ((rd_T39 l0 a1_0).f2)) = some (r1, r2, r3, r4, r5, r6, r7, r8, r9, r10, r11, r12) := by rw [if_pos rfl] at H; exact H
          clear H
          have H := H1
          clear H1
          have H' := Aside0.mk H
          clear H
          have p178 : 0 ≤ (x39_1 : Int) := of_decide_eq_true tW_
          have q178 : x39_1 < (((rd_T39 l0 a1_0).f1).length : Int) := of_decide_eq_true tW_
          obtain ⟨ad178, e178, hx178_0⟩ := Kd.at_int HR176_1.out x39_1 p178 q178
          cases e178
          replace hx178_0 := bc_ HB hx178_0
          replace p178 := eq_true p178
          replace q178 := eq_true q178
          go_wp2
          go_roundg k1
          case measure => have := HK1.out; omega
          case rel => exact ⟨(true), (wrap64 (x39_1 + 1)), tS_, tS_, H', ⟨by have := HK1.out; omega⟩, ⟨dR_ HO_176003⟩, ⟨dR_ HO_176004⟩, ⟨dR_ HO_176005⟩, ⟨dR_ HO_176006⟩, ⟨dB_ BK154⟩, ⟨dB_ BK155⟩, ⟨dB_ BK175⟩, ⟨dB_ BK177⟩, ⟨dL4_ HB GE154 GE155 GE175 GE177⟩⟩
         ·replace c34 := Bool.eq_false_iff.mpr c34
          subst c34
          have H1 : (plant_Bring.l0 k1 a2 a3 ((rd ((rd_T39 l0 a1_0).f1) x39_1) == a2) ((rd_T39 l0 a1_0).f1) (((rd_T39 l0 a1_0).f1).length : Int) (wrap64 (x39_1 + 1)) a1_0 a1_1 a1_2 l1_3 l1_4 l1_5 l1_6 a1_7 a1_8 a1_9 t157 t158 t159 t160 t163 t166 t169 t172 t173 t174 ((rd_T39 l0 a1_0).f0) ((rd_T39 l0 a1_0).f1) ((rd_T39 l0 a1_0).f2)) = some (r1, r2, r3, r4, r5, r6, r7, r8, r9, r10, r11, r12) := by rw [if_neg (show ¬ (false = true) by decide)] at H; exact H
          clear H
          have H := H1
          clear H1
          have H' := Aside0.mk H
          clear H
          have p178 : 0 ≤ (x39_1 : Int) := of_decide_eq_true tW_
          have q178 : x39_1 < (((rd_T39 l0 a1_0).f1).length : Int) := of_decide_eq_true tW_
          obtain ⟨ad178, e178, hx178_0⟩ := Kd.at_int HR176_1.out x39_1 p178 q178
          cases e178
          replace hx178_0 := bc_ HB hx178_0
          replace p178 := eq_true p178
          replace q178 := eq_true q178
          go_wp2
          go_roundg k1
          case measure => have := HK1.out; omega
          case rel => exact ⟨(((rd ((rd_T39 l0 a1_0).f1) x39_1) == a2)), (wrap64 (x39_1 + 1)), tS_, tS_, H', ⟨by have := HK1.out; omega⟩, ⟨dR_ HO_176003⟩, ⟨dR_ HO_176004⟩, ⟨dR_ HO_176005⟩, ⟨dR_ HO_176006⟩, ⟨dB_ BK154⟩, ⟨dB_ BK155⟩, ⟨dB_ BK175⟩, ⟨dB_ BK177⟩, ⟨dL4_ HB GE154 GE155 GE175 GE177⟩⟩
        ·rw [if_neg c33] at H
         exact absurd H (by simp)
       ·rw [if_neg c32] at H
        exact absurd H (by simp)
      ·rw [if_neg c31] at H
       have c31b0 : decide (x39_1 < (((rd_T39 l0 a1_0).f1).length : Int)) = false := decide_eq_false c31
       clear c31
       have HC35 := Aside0.mk H
       clear H
       go_upto_region 12 with (fail)
       go_cut [56] (fun v56 wc => ∃ (kq : Nat) (x56_34 : Bool), v56 = .bool x56_34 ∧ Aside0 (plant_Bring.j1 kq a3 x56_34 t157 t158 t159 t160 t163 t166 t169 t172 t173 t174 ((rd_T39 l0 a1_0).f0) ((rd_T39 l0 a1_0).f1) ((rd_T39 l0 a1_0).f2) = some (r1, r2, r3, r4, r5, r6, r7, r8, r9, r10, r11, r12)) ∧ Aside0 (kq ≤ k1) ∧ Aside0 (Kd.R (Kd.int .i64) 3 wc w.heap.size (fun k_ => some k_ ≠ ((.slice Ao22 t163.length co22) : Value).ownBlock ∧ some k_ ≠ ((.slice Ao23 t166.length co23) : Value).ownBlock ∧ some k_ ≠ ((.slice Ao24 t169.length co24) : Value).ownBlock) (.slice Ao21 t160.length co21) t160) ∧ Aside0 (Kd.R (Kd.int .i64) 3 wc w.heap.size (fun k_ => some k_ ≠ ((.slice Ao21 t160.length co21) : Value).ownBlock ∧ some k_ ≠ ((.slice Ao23 t166.length co23) : Value).ownBlock ∧ some k_ ≠ ((.slice Ao24 t169.length co24) : Value).ownBlock) (.slice Ao22 t163.length co22) t163) ∧ Aside0 (Kd.R (Kd.int .i64) 3 wc w.heap.size (fun k_ => some k_ ≠ ((.slice Ao21 t160.length co21) : Value).ownBlock ∧ some k_ ≠ ((.slice Ao22 t163.length co22) : Value).ownBlock ∧ some k_ ≠ ((.slice Ao24 t169.length co24) : Value).ownBlock) (.slice Ao23 t166.length co23) t166) ∧ Aside0 (Kd.R (Kd.int .i64) 3 wc w.heap.size (fun k_ => some k_ ≠ ((.slice Ao21 t160.length co21) : Value).ownBlock ∧ some k_ ≠ ((.slice Ao22 t163.length co22) : Value).ownBlock ∧ some k_ ≠ ((.slice Ao23 t166.length co23) : Value).ownBlock) (.slice Ao24 t169.length co24) t169) ∧ Aside0 (wc.heap[gb154]? = some (.cells #[.int .i64 a1_0, .int .i64 a1_1, .int .i64 a1_2, (.slice A1_3 l1_3.length c1_3), (.slice A1_4 l1_4.length c1_4), (.slice A1_5 l1_5.length c1_5), (.slice A1_6 l1_6.length c1_6), .int .i64 a1_7, .int .i64 a1_8, .bool a1_9] 25 (0, 0))) ∧ Aside0 (wc.heap[gb155]? = some (.cells #[.int .i64 0, .int .i64 0, .int .i64 0, (.slice none 0 0), (.slice none 0 0), (.slice none 0 0), (.slice none 0 0), .int .i64 0, .int .i64 0, .bool false] 25 (0, 0))) ∧ Aside0 (wc.heap[gb175]? = some (.cells #[.int .i64 t157, .int .i64 t158, .int .i64 t159, (.slice Ao21 t160.length co21), (.slice Ao22 t163.length co22), (.slice Ao23 t166.length co23), (.slice Ao24 t169.length co24), .int .i64 t172, .int .i64 t173, .bool t174] 25 (0, 0))) ∧ Aside0 (wc.heap[gb177]? = some (.cells #[.string ((rd_T39 l0 a1_0).f0), (.slice A176_1 ((rd_T39 l0 a1_0).f1).length c176_1), (.slice A176_2 ((rd_T39 l0 a1_0).f2).length c176_2)] 39 (0, 0))) ∧ Aside0 (Below w.heap.size w wc))
       case first =>
        have H := HC35.out
        clear HC35
        by_cases c36 : a1_9 = true
        ·subst c36
         have H1 : (plant_Bring.j1 k1 a3 (!x14_1) t157 t158 t159 t160 t163 t166 t169 t172 t173 t174 ((rd_T39 l0 a1_0).f0) ((rd_T39 l0 a1_0).f1) ((rd_T39 l0 a1_0).f2)) = some (r1, r2, r3, r4, r5, r6, r7, r8, r9, r10, r11, r12) := by rw [if_pos rfl] at H; exact H
         clear H
         have H := H1
         clear H1
         have H' := Aside0.mk H
         clear H
         have hnb37 := NB154_155.out
         have hnc37 := NB155_154.out
         have hnb38 := NB154_175.out
         have hnc38 := NB175_154.out
         have hnb39 := NB154_177.out
         have hnc39 := NB177_154.out
         obtain ⟨hcz40_0, hcz40_1, hcz40_2, hcz40_3, hcz40_4, hcz40_5, hcz40_6, hcz40_7, hcz40_8, hcz40_9, hfz40_0, hfz40_1, hfz40_2, hfz40_3, hfz40_4, hfz40_5, hfz40_6, hfz40_7, hfz40_8, hfz40_9⟩ := cs10_ BK154.out
         go_wp2
         go_meet
         case rel => exact ⟨_, (!x14_1), tS_, H', ⟨by have := HK1.out; first | omega | exact Nat.le_refl _⟩, ⟨dR_ HO_176003⟩, ⟨dR_ HO_176004⟩, ⟨dR_ HO_176005⟩, ⟨dR_ HO_176006⟩, ⟨dB_ BK154⟩, ⟨dB_ BK155⟩, ⟨dB_ BK175⟩, ⟨dB_ BK177⟩, ⟨dL4_ HB GE154 GE155 GE175 GE177⟩⟩
        ·replace c36 := Bool.eq_false_iff.mpr c36
         subst c36
         have H1 : (plant_Bring.j1 k1 a3 true t157 t158 t159 t160 t163 t166 t169 t172 t173 t174 ((rd_T39 l0 a1_0).f0) ((rd_T39 l0 a1_0).f1) ((rd_T39 l0 a1_0).f2)) = some (r1, r2, r3, r4, r5, r6, r7, r8, r9, r10, r11, r12) := by rw [if_neg (show ¬ (false = true) by decide)] at H; exact H
         clear H
         have H := H1
         clear H1
         have H' := Aside0.mk H
         clear H
         have hnb41 := NB154_155.out
         have hnc41 := NB155_154.out
         have hnb42 := NB154_175.out
         have hnc42 := NB175_154.out
         have hnb43 := NB154_177.out
         have hnc43 := NB177_154.out
         obtain ⟨hcz44_0, hcz44_1, hcz44_2, hcz44_3, hcz44_4, hcz44_5, hcz44_6, hcz44_7, hcz44_8, hcz44_9, hfz44_0, hfz44_1, hfz44_2, hfz44_3, hfz44_4, hfz44_5, hfz44_6, hfz44_7, hfz44_8, hfz44_9⟩ := cs10_ BK154.out
         go_wp2
         go_meet
         case rel => exact ⟨_, (true), tS_, H', ⟨by have := HK1.out; first | omega | exact Nat.le_refl _⟩, ⟨dR_ HO_176003⟩, ⟨dR_ HO_176004⟩, ⟨dR_ HO_176005⟩, ⟨dR_ HO_176006⟩, ⟨dB_ BK154⟩, ⟨dB_ BK155⟩, ⟨dB_ BK175⟩, ⟨dB_ BK177⟩, ⟨dL4_ HB GE154 GE155 GE175 GE177⟩⟩
       case rest =>
        clear HC35
        try clear c6
        try clear c6b0
        try clear c6b1
        try clear c8
        try clear c8b0
        try clear c9
        try clear c9b0
        try clear c31
        try clear c31b0
        try clear c32
        try clear c33
        try clear hcz13_0
        try clear hcz13_1
        try clear hcz13_2
        try clear hcz13_3
        try clear hcz13_4
        try clear hcz13_5
        try clear hcz13_6
        try clear hcz13_7
        try clear hcz13_8
        try clear hcz13_9
        try clear hcz15_0
        try clear hcz15_1
        try clear hcz15_2
        try clear hcz15_3
        try clear hcz15_4
        try clear hcz15_5
        try clear hcz15_6
        try clear hcz15_7
        try clear hcz15_8
        try clear hcz15_9
        try clear hcz20_0
        try clear hcz20_1
        try clear hcz20_2
        try clear hcz20_3
        try clear hcz20_4
        try clear hcz20_5
        try clear hcz20_6
        try clear hcz20_7
        try clear hcz20_8
        try clear hcz20_9
        try clear hcz25_0
        try clear hcz25_1
        try clear hcz25_2
        try clear hcz25_3
        try clear hcz25_4
        try clear hcz25_5
        try clear hcz25_6
        try clear hcz25_7
        try clear hcz25_8
        try clear hcz25_9
        try clear hcz30_0
        try clear hcz30_1
        try clear hcz30_2
        try clear hfz13_0
        try clear hfz13_1
        try clear hfz13_2
        try clear hfz13_3
        try clear hfz13_4
        try clear hfz13_5
        try clear hfz13_6
        try clear hfz13_7
        try clear hfz13_8
        try clear hfz13_9
        try clear hfz15_0
        try clear hfz15_1
        try clear hfz15_2
        try clear hfz15_3
        try clear hfz15_4
        try clear hfz15_5
        try clear hfz15_6
        try clear hfz15_7
        try clear hfz15_8
        try clear hfz15_9
        try clear hfz20_0
        try clear hfz20_1
        try clear hfz20_2
        try clear hfz20_3
        try clear hfz20_4
        try clear hfz20_5
        try clear hfz20_6
        try clear hfz20_7
        try clear hfz20_8
        try clear hfz20_9
        try clear hfz25_0
        try clear hfz25_1
        try clear hfz25_2
        try clear hfz25_3
        try clear hfz25_4
        try clear hfz25_5
        try clear hfz25_6
        try clear hfz25_7
        try clear hfz25_8
        try clear hfz25_9
        try clear hfz30_0
        try clear hfz30_1
        try clear hfz30_2
        try clear hx176_0
        try clear hx176_1
        try clear hx176_2
        try clear p176
        try clear q176
        obtain ⟨kq, x56_34, rfl, HA, HJ34, HO_176003, HO_176004, HO_176005, HO_176006, BK154, BK155, BK175, BK177, HB⟩ := hcut
        cases kq with
        | zero => exact absurd HA.out (by simp [plant_Bring.j1])
        | succ kj34 =>
         have H := HA.out
         clear HA
         simp only [plant_Bring.j1] at H
         by_cases c45 : x56_34 = true
         ·subst c45
          have H1 : (some (t157, t158, t159, t160, t163, t166, t169, t172, t173, t174, 0, 0)) = some (r1, r2, r3, r4, r5, r6, r7, r8, r9, r10, r11, r12) := by rw [if_pos rfl] at H; exact H
          clear H
          have H := H1
          clear H1
          simp only [Option.some.injEq, Prod.mk.injEq] at H
          obtain ⟨rfl, rfl, rfl, rfl, rfl, rfl, rfl, rfl, rfl, rfl, rfl, rfl⟩ := H
          have hnb46 := NB175_154.out
          have hnc46 := NB154_175.out
          have hnb47 := NB175_155.out
          have hnc47 := NB155_175.out
          have hnb48 := NB175_177.out
          have hnc48 := NB177_175.out
          obtain ⟨hcz49_0, hcz49_1, hcz49_2, hcz49_3, hcz49_4, hcz49_5, hcz49_6, hcz49_7, hcz49_8, hcz49_9, hfz49_0, hfz49_1, hfz49_2, hfz49_3, hfz49_4, hfz49_5, hfz49_6, hfz49_7, hfz49_8, hfz49_9⟩ := cs10_ BK175.out
          have hnb50 := NB155_154.out
          have hnc50 := NB154_155.out
          have hnb51 := NB155_177.out
          have hnc51 := NB177_155.out
          obtain ⟨hcz52_0, hcz52_1, hcz52_2, hcz52_3, hcz52_4, hcz52_5, hcz52_6, hcz52_7, hcz52_8, hcz52_9, hfz52_0, hfz52_1, hfz52_2, hfz52_3, hfz52_4, hfz52_5, hfz52_6, hfz52_7, hfz52_8, hfz52_9⟩ := cs10_ BK155.out
          go_wp2
          refine bodyPost_ret (results_ctt rfl _ _ gb155 25 #[.int .i64 t157, .int .i64 t158, .int .i64 t159, .slice Ao21 t160.length co21, .slice Ao22 t163.length co22, .slice Ao23 t166.length co23, .slice Ao24 t169.length co24, .int .i64 t172, .int .i64 t173, .bool t174] (0, 0) _ rfl (dP10_ BK155) Try.underlying25 rfl (by kernel_rfl)) rfl ?_
          exact ⟨_, _, _, _, tE_, by (with_reducible repeat (first | apply Kd.R_alloc | apply Kd.R_drewN | apply Kd.R_drew)); exact Kd.R_mono (far10_ (Kd.R_types HO_176003.out BK155.out (by decide)) gb155 (fun _ hk => hk.2) (.int .i64 t157) (.int .i64 t158) (.int .i64 t159) (.slice Ao21 t160.length co21) (.slice Ao22 t163.length co22) (.slice Ao23 t166.length co23) (.slice Ao24 t169.length co24) (.int .i64 t172) (.int .i64 t173) (.bool t174)) (fun _ hk => ⟨hk.1.1, ⟨hk.1.2.1, hk.1.2.2⟩⟩), by (with_reducible repeat (first | apply Kd.R_alloc | apply Kd.R_drewN | apply Kd.R_drew)); exact Kd.R_mono (far10_ (Kd.R_types HO_176004.out BK155.out (by decide)) gb155 (fun _ hk => hk.2) (.int .i64 t157) (.int .i64 t158) (.int .i64 t159) (.slice Ao21 t160.length co21) (.slice Ao22 t163.length co22) (.slice Ao23 t166.length co23) (.slice Ao24 t169.length co24) (.int .i64 t172) (.int .i64 t173) (.bool t174)) (fun _ hk => ⟨hk.1.1, ⟨hk.1.2.1, hk.1.2.2⟩⟩), by (with_reducible repeat (first | apply Kd.R_alloc | apply Kd.R_drewN | apply Kd.R_drew)); exact Kd.R_mono (far10_ (Kd.R_types HO_176005.out BK155.out (by decide)) gb155 (fun _ hk => hk.2) (.int .i64 t157) (.int .i64 t158) (.int .i64 t159) (.slice Ao21 t160.length co21) (.slice Ao22 t163.length co22) (.slice Ao23 t166.length co23) (.slice Ao24 t169.length co24) (.int .i64 t172) (.int .i64 t173) (.bool t174)) (fun _ hk => ⟨hk.1.1, ⟨hk.1.2.1, hk.1.2.2⟩⟩), by (with_reducible repeat (first | apply Kd.R_alloc | apply Kd.R_drewN | apply Kd.R_drew)); exact Kd.R_mono (far10_ (Kd.R_types HO_176006.out BK155.out (by decide)) gb155 (fun _ hk => hk.2) (.int .i64 t157) (.int .i64 t158) (.int .i64 t159) (.slice Ao21 t160.length co21) (.slice Ao22 t163.length co22) (.slice Ao23 t166.length co23) (.slice Ao24 t169.length co24) (.int .i64 t172) (.int .i64 t173) (.bool t174)) (fun _ hk => ⟨hk.1.1, ⟨hk.1.2.1, hk.1.2.2⟩⟩), dL4_ HB GE154 GE155 GE175 GE177⟩
         ·replace c45 := Bool.eq_false_iff.mpr c45
          subst c45
          have H1 : (plant_Bring.l1 kj34 a3 ((rd_T39 l0 a1_0).f2) (((rd_T39 l0 a1_0).f2).length : Int) 0 t157 t158 t159 t160 t163 t166 t169 t172 t173 t174) = some (r1, r2, r3, r4, r5, r6, r7, r8, r9, r10, r11, r12) := by rw [if_neg (show ¬ (false = true) by decide)] at H; exact H
          clear H
          have H := H1
          clear H1
          have H' := Aside0.mk H
          clear H
          have hnb53 := NB177_154.out
          have hnc53 := NB154_177.out
          have hnb54 := NB177_155.out
          have hnc54 := NB155_177.out
          have hnb55 := NB177_175.out
          have hnc55 := NB175_177.out
          obtain ⟨hcz56_0, hcz56_1, hcz56_2, hfz56_0, hfz56_1, hfz56_2⟩ := cs3_ BK177.out
          go_wp2
          go_loopg [61] kj34 (fun kq v61 w' => ∃ (x61_3 : Int) (x176003_3 : List Int) (x176004_3 : List Int) (x176005_3 : List Int) (x176006_3 : List Int) (u176003 : Value) (u176004 : Value) (u176005 : Value) (u176006 : Value), v61 = .int .i64 x61_3 ∧ Aside0 (plant_Bring.l1 kq a3 ((rd_T39 l0 a1_0).f2) (((rd_T39 l0 a1_0).f2).length : Int) x61_3 t157 t158 t159 x176003_3 x176004_3 x176005_3 x176006_3 t172 t173 t174 = some (r1, r2, r3, r4, r5, r6, r7, r8, r9, r10, r11, r12)) ∧ Aside0 (kq ≤ kj34) ∧ Aside0 (Kd.R (Kd.int .i64) 3 w' w.heap.size (fun k_ => some k_ ≠ (u176004 : Value).ownBlock ∧ some k_ ≠ (u176005 : Value).ownBlock ∧ some k_ ≠ (u176006 : Value).ownBlock) u176003 x176003_3) ∧ Aside0 (Kd.R (Kd.int .i64) 3 w' w.heap.size (fun k_ => some k_ ≠ (u176003 : Value).ownBlock ∧ some k_ ≠ (u176005 : Value).ownBlock ∧ some k_ ≠ (u176006 : Value).ownBlock) u176004 x176004_3) ∧ Aside0 (Kd.R (Kd.int .i64) 3 w' w.heap.size (fun k_ => some k_ ≠ (u176003 : Value).ownBlock ∧ some k_ ≠ (u176004 : Value).ownBlock ∧ some k_ ≠ (u176006 : Value).ownBlock) u176005 x176005_3) ∧ Aside0 (Kd.R (Kd.int .i64) 3 w' w.heap.size (fun k_ => some k_ ≠ (u176003 : Value).ownBlock ∧ some k_ ≠ (u176004 : Value).ownBlock ∧ some k_ ≠ (u176005 : Value).ownBlock) u176006 x176006_3) ∧ Aside0 (w'.heap[gb154]? = some (.cells #[.int .i64 a1_0, .int .i64 a1_1, .int .i64 a1_2, (.slice A1_3 l1_3.length c1_3), (.slice A1_4 l1_4.length c1_4), (.slice A1_5 l1_5.length c1_5), (.slice A1_6 l1_6.length c1_6), .int .i64 a1_7, .int .i64 a1_8, .bool a1_9] 25 (0, 0))) ∧ Aside0 (w'.heap[gb155]? = some (.cells #[.int .i64 0, .int .i64 0, .int .i64 0, (.slice none 0 0), (.slice none 0 0), (.slice none 0 0), (.slice none 0 0), .int .i64 0, .int .i64 0, .bool false] 25 (0, 0))) ∧ Aside0 (w'.heap[gb175]? = some (.cells #[.int .i64 t157, .int .i64 t158, .int .i64 t159, u176003, u176004, u176005, u176006, .int .i64 t172, .int .i64 t173, .bool t174] 25 (0, 0))) ∧ Aside0 (w'.heap[gb177]? = some (.cells #[.string ((rd_T39 l0 a1_0).f0), (.slice A176_1 ((rd_T39 l0 a1_0).f1).length c176_1), (.slice A176_2 ((rd_T39 l0 a1_0).f2).length c176_2)] 39 (0, 0))) ∧ Aside0 (Below w.heap.size w w'))
          case atStart => exact ⟨(0), (t160), (t163), (t166), (t169), (.slice Ao21 t160.length co21), (.slice Ao22 t163.length co22), (.slice Ao23 t166.length co23), (.slice Ao24 t169.length co24), tS_, H', ⟨Nat.le_refl _⟩, ⟨dR_ HO_176003⟩, ⟨dR_ HO_176004⟩, ⟨dR_ HO_176005⟩, ⟨dR_ HO_176006⟩, ⟨dB_ BK154⟩, ⟨dB_ BK155⟩, ⟨dB_ BK175⟩, ⟨dB_ BK177⟩, ⟨dL4_ HB GE154 GE155 GE175 GE177⟩⟩
          case round =>
           clear H'
           try clear c6
           try clear c6b0
           try clear c6b1
           try clear c8
           try clear c8b0
           try clear c9
           try clear c9b0
           try clear c31
           try clear c31b0
           try clear c32
           try clear c33
           try clear c45
           try clear hcz13_0
           try clear hcz13_1
           try clear hcz13_2
           try clear hcz13_3
           try clear hcz13_4
           try clear hcz13_5
           try clear hcz13_6
           try clear hcz13_7
           try clear hcz13_8
           try clear hcz13_9
           try clear hcz15_0
           try clear hcz15_1
           try clear hcz15_2
           try clear hcz15_3
           try clear hcz15_4
           try clear hcz15_5
           try clear hcz15_6
           try clear hcz15_7
           try clear hcz15_8
           try clear hcz15_9
           try clear hcz20_0
           try clear hcz20_1
           try clear hcz20_2
           try clear hcz20_3
           try clear hcz20_4
           try clear hcz20_5
           try clear hcz20_6
           try clear hcz20_7
           try clear hcz20_8
           try clear hcz20_9
           try clear hcz25_0
           try clear hcz25_1
           try clear hcz25_2
           try clear hcz25_3
           try clear hcz25_4
           try clear hcz25_5
           try clear hcz25_6
           try clear hcz25_7
           try clear hcz25_8
           try clear hcz25_9
           try clear hcz30_0
           try clear hcz30_1
           try clear hcz30_2
           try clear hcz56_0
           try clear hcz56_1
           try clear hcz56_2
           try clear hfz13_0
           try clear hfz13_1
           try clear hfz13_2
           try clear hfz13_3
           try clear hfz13_4
           try clear hfz13_5
           try clear hfz13_6
           try clear hfz13_7
           try clear hfz13_8
           try clear hfz13_9
           try clear hfz15_0
           try clear hfz15_1
           try clear hfz15_2
           try clear hfz15_3
           try clear hfz15_4
           try clear hfz15_5
           try clear hfz15_6
           try clear hfz15_7
           try clear hfz15_8
           try clear hfz15_9
           try clear hfz20_0
           try clear hfz20_1
           try clear hfz20_2
           try clear hfz20_3
           try clear hfz20_4
           try clear hfz20_5
           try clear hfz20_6
           try clear hfz20_7
           try clear hfz20_8
           try clear hfz20_9
           try clear hfz25_0
           try clear hfz25_1
           try clear hfz25_2
           try clear hfz25_3
           try clear hfz25_4
           try clear hfz25_5
           try clear hfz25_6
           try clear hfz25_7
           try clear hfz25_8
           try clear hfz25_9
           try clear hfz30_0
           try clear hfz30_1
           try clear hfz30_2
           try clear hfz56_0
           try clear hfz56_1
           try clear hfz56_2
           try clear hx176_0
           try clear hx176_1
           try clear hx176_2
           try clear p176
           try clear q176
           obtain ⟨x61_3, x176003_3, x176004_3, x176005_3, x176006_3, u176003, u176004, u176005, u176006, rfl, HA, HK3, HO_176003, HO_176004, HO_176005, HO_176006, BK154, BK155, BK175, BK177, HB⟩ := hrel
           cases gk with
           | zero => exact absurd HA.out (by simp [plant_Bring.l1])
           | succ k3 =>
            have H := HA.out
            clear HA
            simp only [plant_Bring.l1] at H
            by_cases c57 : x61_3 < (((rd_T39 l0 a1_0).f2).length : Int)
            ·rw [if_pos c57] at H
             have c57b0 : decide (x61_3 < (((rd_T39 l0 a1_0).f2).length : Int)) = true := decide_eq_true c57
             clear c57
             by_cases c58 : 0 ≤ x61_3
             ·rw [if_pos c58] at H
              have c58b0 : decide (0 ≤ x61_3) = true := decide_eq_true c58
              clear c58
              by_cases c59 : x61_3 < (((rd_T39 l0 a1_0).f2).length : Int)
              ·rw [if_pos c59] at H
               have c59b0 : decide (x61_3 < (((rd_T39 l0 a1_0).f2).length : Int)) = true := decide_eq_true c59
               clear c59
               by_cases c60 : x61_3 < (x176004_3.length : Int)
               ·rw [if_pos c60] at H
                have c60b0 : decide (x61_3 < (x176004_3.length : Int)) = true := decide_eq_true c60
                clear c60
                by_cases c61 : x61_3 < (x176003_3.length : Int)
                ·rw [if_pos c61] at H
                 have c61b0 : decide (x61_3 < (x176003_3.length : Int)) = true := decide_eq_true c61
                 clear c61
                 obtain ⟨ji62, hji62⟩ : ∃ j_ : Int, (mn (wrap64 ((rd x176003_3 x61_3) + (wrap64 (Int.tdiv (wrap64 ((rd x176004_3 x61_3) + (wrap64 (a3 * ((rd_T41 ((rd_T39 l0 a1_0).f2) x61_3).f1))))) 8)))) 1000000) = j_ := ⟨_, rfl⟩
                 replace H : (if x61_3 < (x176005_3.length : Int) then (plant_Bring.l1 k3 a3 ((rd_T39 l0 a1_0).f2) (((rd_T39 l0 a1_0).f2).length : Int) (wrap64 (x61_3 + 1)) t157 t158 t159 (x176003_3.set (x61_3 : Int).toNat (ji62)) (x176004_3.set (x61_3 : Int).toNat (Int.tmod (wrap64 ((rd x176004_3 x61_3) + (wrap64 (a3 * ((rd_T41 ((rd_T39 l0 a1_0).f2) x61_3).f1))))) 8)) (x176005_3.set (x61_3 : Int).toNat (mn (wrap64 ((rd x176005_3 x61_3) + (wrap64 (Int.tdiv (wrap64 ((rd x176004_3 x61_3) + (wrap64 (a3 * ((rd_T41 ((rd_T39 l0 a1_0).f2) x61_3).f1))))) 8)))) 1000000)) x176006_3 t172 t173 t174) else (none)) = some (r1, r2, r3, r4, r5, r6, r7, r8, r9, r10, r11, r12) := by first | (rw [hji62] at H; exact H) | (simp only [hji62] at H ⊢; exact H)
                 have hji62_ : (if 1000000 < (wrap64 ((rd x176003_3 x61_3) + (wrap64 (Int.tdiv (wrap64 ((rd x176004_3 x61_3) + (wrap64 (a3 * ((rd_T41 ((rd_T39 l0 a1_0).f2) x61_3).f1))))) 8)))) then 1000000 else (wrap64 ((rd x176003_3 x61_3) + (wrap64 (Int.tdiv (wrap64 ((rd x176004_3 x61_3) + (wrap64 (a3 * ((rd_T41 ((rd_T39 l0 a1_0).f2) x61_3).f1))))) 8))))) = ji62 := hji62
                 obtain ⟨y183, hy183⟩ : ∃ y_ : List Int, y_ = (x176003_3.set (x61_3 : Int).toNat (ji62)) := ⟨_, rfl⟩
                 replace H : (if x61_3 < (x176005_3.length : Int) then (plant_Bring.l1 k3 a3 ((rd_T39 l0 a1_0).f2) (((rd_T39 l0 a1_0).f2).length : Int) (wrap64 (x61_3 + 1)) t157 t158 t159 y183 (x176004_3.set (x61_3 : Int).toNat (Int.tmod (wrap64 ((rd x176004_3 x61_3) + (wrap64 (a3 * ((rd_T41 ((rd_T39 l0 a1_0).f2) x61_3).f1))))) 8)) (x176005_3.set (x61_3 : Int).toNat (mn (wrap64 ((rd x176005_3 x61_3) + (wrap64 (Int.tdiv (wrap64 ((rd x176004_3 x61_3) + (wrap64 (a3 * ((rd_T41 ((rd_T39 l0 a1_0).f2) x61_3).f1))))) 8)))) 1000000)) x176006_3 t172 t173 t174) else (none)) = some (r1, r2, r3, r4, r5, r6, r7, r8, r9, r10, r11, r12) := by first | (rw [hy183]; with_reducible exact H) | (have H2_ := (Option.bind_some _ _).symm.trans H; rw [hy183]; with_reducible exact H2_) | (have H2_ := (Option.bind_some _ _).symm.trans H; with_reducible exact H2_) | with_reducible exact H | (rw [hy183]; exact H) | exact H
                 have Ny183 := Aside0.mk hy183
                 clear hy183
                 by_cases c64 : x61_3 < (x176005_3.length : Int)
                 ·rw [if_pos c64] at H
                  have c64b0 : decide (x61_3 < (x176005_3.length : Int)) = true := decide_eq_true c64
                  clear c64
                  obtain ⟨ji65, hji65⟩ : ∃ j_ : Int, (mn (wrap64 ((rd x176005_3 x61_3) + (wrap64 (Int.tdiv (wrap64 ((rd x176004_3 x61_3) + (wrap64 (a3 * ((rd_T41 ((rd_T39 l0 a1_0).f2) x61_3).f1))))) 8)))) 1000000) = j_ := ⟨_, rfl⟩
                  replace H : (plant_Bring.l1 k3 a3 ((rd_T39 l0 a1_0).f2) (((rd_T39 l0 a1_0).f2).length : Int) (wrap64 (x61_3 + 1)) t157 t158 t159 y183 (x176004_3.set (x61_3 : Int).toNat (Int.tmod (wrap64 ((rd x176004_3 x61_3) + (wrap64 (a3 * ((rd_T41 ((rd_T39 l0 a1_0).f2) x61_3).f1))))) 8)) (x176005_3.set (x61_3 : Int).toNat (ji65)) x176006_3 t172 t173 t174) = some (r1, r2, r3, r4, r5, r6, r7, r8, r9, r10, r11, r12) := by first | (rw [hji65] at H; exact H) | (simp only [hji65] at H ⊢; exact H)
                  have hji65_ : (if 1000000 < (wrap64 ((rd x176005_3 x61_3) + (wrap64 (Int.tdiv (wrap64 ((rd x176004_3 x61_3) + (wrap64 (a3 * ((rd_T41 ((rd_T39 l0 a1_0).f2) x61_3).f1))))) 8)))) then 1000000 else (wrap64 ((rd x176005_3 x61_3) + (wrap64 (Int.tdiv (wrap64 ((rd x176004_3 x61_3) + (wrap64 (a3 * ((rd_T41 ((rd_T39 l0 a1_0).f2) x61_3).f1))))) 8))))) = ji65 := hji65
                  obtain ⟨y185, hy185⟩ : ∃ y_ : List Int, y_ = (x176005_3.set (x61_3 : Int).toNat (ji65)) := ⟨_, rfl⟩
                  replace H : (plant_Bring.l1 k3 a3 ((rd_T39 l0 a1_0).f2) (((rd_T39 l0 a1_0).f2).length : Int) (wrap64 (x61_3 + 1)) t157 t158 t159 y183 (x176004_3.set (x61_3 : Int).toNat (Int.tmod (wrap64 ((rd x176004_3 x61_3) + (wrap64 (a3 * ((rd_T41 ((rd_T39 l0 a1_0).f2) x61_3).f1))))) 8)) y185 x176006_3 t172 t173 t174) = some (r1, r2, r3, r4, r5, r6, r7, r8, r9, r10, r11, r12) := by first | (rw [hy185]; with_reducible exact H) | (have H2_ := (Option.bind_some _ _).symm.trans H; rw [hy185]; with_reducible exact H2_) | (have H2_ := (Option.bind_some _ _).symm.trans H; with_reducible exact H2_) | with_reducible exact H | (rw [hy185]; exact H) | exact H
                  have Ny185 := Aside0.mk hy185
                  clear hy185
                  obtain ⟨y186, hy186⟩ : ∃ y_ : List Int, y_ = (x176004_3.set (x61_3 : Int).toNat (Int.tmod (wrap64 ((rd x176004_3 x61_3) + (wrap64 (a3 * ((rd_T41 ((rd_T39 l0 a1_0).f2) x61_3).f1))))) 8)) := ⟨_, rfl⟩
                  replace H : (plant_Bring.l1 k3 a3 ((rd_T39 l0 a1_0).f2) (((rd_T39 l0 a1_0).f2).length : Int) (wrap64 (x61_3 + 1)) t157 t158 t159 y183 y186 y185 x176006_3 t172 t173 t174) = some (r1, r2, r3, r4, r5, r6, r7, r8, r9, r10, r11, r12) := by first | (rw [hy186]; with_reducible exact H) | (have H2_ := (Option.bind_some _ _).symm.trans H; rw [hy186]; with_reducible exact H2_) | (have H2_ := (Option.bind_some _ _).symm.trans H; with_reducible exact H2_) | with_reducible exact H | (rw [hy186]; exact H) | exact H
                  have Ny186 := Aside0.mk hy186
                  clear hy186
                  have H' := Aside0.mk H
                  clear H
                  have p179 : 0 ≤ (x61_3 : Int) := of_decide_eq_true tW_
                  have q179 : x61_3 < (((rd_T39 l0 a1_0).f2).length : Int) := of_decide_eq_true tW_
                  obtain ⟨ad179, e179, hx179_0, hx179_1⟩ := at_T41 HR176_2.out x61_3 p179 q179
                  cases e179
                  replace hx179_0 := bc_ HB hx179_0
                  replace hx179_1 := bc_ HB hx179_1
                  replace p179 := eq_true p179
                  replace q179 := eq_true q179
                  try go_wp2_with (first | ((with_reducible refine gate_dst (N := 18) rfl ?_); refine box_event ?hg (N := 18) ?hd (cs := #[.int .i64 0, .int .i64 0]) (t := 41) ?hr ?_; (case hd => rfl); (case hg => rfl); (case hr => first | (go_simp; done) | (go_simp; rfl)); intro gb180 hg w68 hbox hb; replace HO_176003 := Aside0.mk (Kd.R_below (dR_ HO_176003) hb); replace HO_176004 := Aside0.mk (Kd.R_below (dR_ HO_176004) hb); replace HO_176005 := Aside0.mk (Kd.R_below (dR_ HO_176005) hb); replace HO_176006 := Aside0.mk (Kd.R_below (dR_ HO_176006) hb); have BK180 := Aside0.mk (hbox); have GW180 := Aside0.mk ((dS_ hg (dL4_ HB GE154 GE155 GE175 GE177) : w.heap.size ≤ gb180)); have GE180 := Aside0.mk ((dS_ hg (dL4_ HB GE154 GE155 GE175 GE177) : w.heap.size ≤ gb180)); replace HB := Aside0.mk (below_step (dL4_ HB GE154 GE155 GE175 GE177) hb); have NB154_180 := Aside0.mk ((by rw [hg]; exact Nat.ne_of_lt (blk_lt (dB_ BK154)) : gb154 ≠ gb180)); have NB180_154 := Aside0.mk ((by rw [hg]; exact Nat.ne_of_gt (blk_lt (dB_ BK154)) : gb180 ≠ gb154)); replace BK154 := Aside0.mk (blk_below (g := gb154) (o := .cells #[.int .i64 a1_0, .int .i64 a1_1, .int .i64 a1_2, .slice A1_3 l1_3.length c1_3, .slice A1_4 l1_4.length c1_4, .slice A1_5 l1_5.length c1_5, .slice A1_6 l1_6.length c1_6, .int .i64 a1_7, .int .i64 a1_8, .bool a1_9] 25 (0, 0)) (dB_ BK154) hb); have NB155_180 := Aside0.mk ((by rw [hg]; exact Nat.ne_of_lt (blk_lt (dB_ BK155)) : gb155 ≠ gb180)); have NB180_155 := Aside0.mk ((by rw [hg]; exact Nat.ne_of_gt (blk_lt (dB_ BK155)) : gb180 ≠ gb155)); replace BK155 := Aside0.mk (blk_below (g := gb155) (o := .cells #[.int .i64 0, .int .i64 0, .int .i64 0, .slice none 0 0, .slice none 0 0, .slice none 0 0, .slice none 0 0, .int .i64 0, .int .i64 0, .bool false] 25 (0, 0)) (dB_ BK155) hb); have NB175_180 := Aside0.mk ((by rw [hg]; exact Nat.ne_of_lt (blk_lt (dB_ BK175)) : gb175 ≠ gb180)); have NB180_175 := Aside0.mk ((by rw [hg]; exact Nat.ne_of_gt (blk_lt (dB_ BK175)) : gb180 ≠ gb175)); replace BK175 := Aside0.mk (blk_below (g := gb175) (o := .cells #[.int .i64 t157, .int .i64 t158, .int .i64 t159, u176003, u176004, u176005, u176006, .int .i64 t172, .int .i64 t173, .bool t174] 25 (0, 0)) (dB_ BK175) hb); have NB177_180 := Aside0.mk ((by rw [hg]; exact Nat.ne_of_lt (blk_lt (dB_ BK177)) : gb177 ≠ gb180)); have NB180_177 := Aside0.mk ((by rw [hg]; exact Nat.ne_of_gt (blk_lt (dB_ BK177)) : gb180 ≠ gb177)); replace BK177 := Aside0.mk (blk_below (g := gb177) (o := .cells #[.string ((rd_T39 l0 a1_0).f0), .slice A176_1 ((rd_T39 l0 a1_0).f1).length c176_1, .slice (some ad179) ((rd_T39 l0 a1_0).f2).length c176_2] 39 (0, 0)) (dB_ BK177) hb); clear hb hbox hg; have hnb69 := NB180_154.out; have hnc69 := NB154_180.out; have hnb70 := NB180_155.out; have hnc70 := NB155_180.out; have hnb71 := NB180_175.out; have hnc71 := NB175_180.out; have hnb72 := NB180_177.out; have hnc72 := NB177_180.out; obtain ⟨hcz73_0, hcz73_1, hfz73_0, hfz73_1⟩ := cs2_ BK180.out))
                  have n0_ : Aside0 (Kd.R (Kd.int .i64) 3 ((w68.setCell ⟨gb180, 0, none⟩ (.int .i64 ((rd_T41 ((rd_T39 l0 a1_0).f2) x61_3).f0))).setCell ⟨gb180, 1, none⟩ (.int .i64 ((rd_T41 ((rd_T39 l0 a1_0).f2) x61_3).f1))) w.heap.size (fun k_ => some k_ ≠ (u176004 : Value).ownBlock ∧ some k_ ≠ (u176005 : Value).ownBlock ∧ some k_ ≠ (u176006 : Value).ownBlock) u176003 x176003_3) := ⟨by (with_reducible repeat (first | apply Kd.R_alloc | apply Kd.R_drewN | apply Kd.R_drew)); exact Kd.R_mono (Kd.R_far (p := ⟨gb180, 1, none⟩) (Kd.R_far (p := ⟨gb180, 0, none⟩) (Kd.R_types HO_176003.out BK180.out (by decide)) (fun _ hk => hk.2) (.int .i64 ((rd_T41 ((rd_T39 l0 a1_0).f2) x61_3).f0))) (fun _ hk => hk.2) (.int .i64 ((rd_T41 ((rd_T39 l0 a1_0).f2) x61_3).f1))) (fun _ hk => ⟨hk.1.1, ⟨hk.1.2.1, hk.1.2.2⟩⟩)⟩
                  have n1_ : Aside0 (Kd.R (Kd.int .i64) 3 ((w68.setCell ⟨gb180, 0, none⟩ (.int .i64 ((rd_T41 ((rd_T39 l0 a1_0).f2) x61_3).f0))).setCell ⟨gb180, 1, none⟩ (.int .i64 ((rd_T41 ((rd_T39 l0 a1_0).f2) x61_3).f1))) w.heap.size (fun k_ => some k_ ≠ (u176003 : Value).ownBlock ∧ some k_ ≠ (u176005 : Value).ownBlock ∧ some k_ ≠ (u176006 : Value).ownBlock) u176004 x176004_3) := ⟨by (with_reducible repeat (first | apply Kd.R_alloc | apply Kd.R_drewN | apply Kd.R_drew)); exact Kd.R_mono (Kd.R_far (p := ⟨gb180, 1, none⟩) (Kd.R_far (p := ⟨gb180, 0, none⟩) (Kd.R_types HO_176004.out BK180.out (by decide)) (fun _ hk => hk.2) (.int .i64 ((rd_T41 ((rd_T39 l0 a1_0).f2) x61_3).f0))) (fun _ hk => hk.2) (.int .i64 ((rd_T41 ((rd_T39 l0 a1_0).f2) x61_3).f1))) (fun _ hk => ⟨hk.1.1, ⟨hk.1.2.1, hk.1.2.2⟩⟩)⟩
                  have n2_ : Aside0 (Kd.R (Kd.int .i64) 3 ((w68.setCell ⟨gb180, 0, none⟩ (.int .i64 ((rd_T41 ((rd_T39 l0 a1_0).f2) x61_3).f0))).setCell ⟨gb180, 1, none⟩ (.int .i64 ((rd_T41 ((rd_T39 l0 a1_0).f2) x61_3).f1))) w.heap.size (fun k_ => some k_ ≠ (u176003 : Value).ownBlock ∧ some k_ ≠ (u176004 : Value).ownBlock ∧ some k_ ≠ (u176006 : Value).ownBlock) u176005 x176005_3) := ⟨by (with_reducible repeat (first | apply Kd.R_alloc | apply Kd.R_drewN | apply Kd.R_drew)); exact Kd.R_mono (Kd.R_far (p := ⟨gb180, 1, none⟩) (Kd.R_far (p := ⟨gb180, 0, none⟩) (Kd.R_types HO_176005.out BK180.out (by decide)) (fun _ hk => hk.2) (.int .i64 ((rd_T41 ((rd_T39 l0 a1_0).f2) x61_3).f0))) (fun _ hk => hk.2) (.int .i64 ((rd_T41 ((rd_T39 l0 a1_0).f2) x61_3).f1))) (fun _ hk => ⟨hk.1.1, ⟨hk.1.2.1, hk.1.2.2⟩⟩)⟩
                  have n3_ : Aside0 (Kd.R (Kd.int .i64) 3 ((w68.setCell ⟨gb180, 0, none⟩ (.int .i64 ((rd_T41 ((rd_T39 l0 a1_0).f2) x61_3).f0))).setCell ⟨gb180, 1, none⟩ (.int .i64 ((rd_T41 ((rd_T39 l0 a1_0).f2) x61_3).f1))) w.heap.size (fun k_ => some k_ ≠ (u176003 : Value).ownBlock ∧ some k_ ≠ (u176004 : Value).ownBlock ∧ some k_ ≠ (u176005 : Value).ownBlock) u176006 x176006_3) := ⟨by (with_reducible repeat (first | apply Kd.R_alloc | apply Kd.R_drewN | apply Kd.R_drew)); exact Kd.R_mono (Kd.R_far (p := ⟨gb180, 1, none⟩) (Kd.R_far (p := ⟨gb180, 0, none⟩) (Kd.R_types HO_176006.out BK180.out (by decide)) (fun _ hk => hk.2) (.int .i64 ((rd_T41 ((rd_T39 l0 a1_0).f2) x61_3).f0))) (fun _ hk => hk.2) (.int .i64 ((rd_T41 ((rd_T39 l0 a1_0).f2) x61_3).f1))) (fun _ hk => ⟨hk.1.1, ⟨hk.1.2.1, hk.1.2.2⟩⟩)⟩
                  have n4_ : Aside0 (((w68.setCell ⟨gb180, 0, none⟩ (.int .i64 ((rd_T41 ((rd_T39 l0 a1_0).f2) x61_3).f0))).setCell ⟨gb180, 1, none⟩ (.int .i64 ((rd_T41 ((rd_T39 l0 a1_0).f2) x61_3).f1))).heap[gb154]? = some (.cells #[.int .i64 a1_0, .int .i64 a1_1, .int .i64 a1_2, .slice A1_3 l1_3.length c1_3, .slice A1_4 l1_4.length c1_4, .slice A1_5 l1_5.length c1_5, .slice A1_6 l1_6.length c1_6, .int .i64 a1_7, .int .i64 a1_8, .bool a1_9] 25 (0, 0))) := ⟨by (with_reducible repeat (first | refine blk_drewN ?_ _ | refine blk_drew ?_ | refine blk_alloc ?_ _)); refine blk_far ?_ NB154_180.out _; (with_reducible repeat (first | refine blk_drewN ?_ _ | refine blk_drew ?_ | refine blk_alloc ?_ _)); refine blk_far ?_ NB154_180.out _; (with_reducible repeat (first | refine blk_drewN ?_ _ | refine blk_drew ?_ | refine blk_alloc ?_ _)); exact BK154.out⟩
                  have n5_ : Aside0 (((w68.setCell ⟨gb180, 0, none⟩ (.int .i64 ((rd_T41 ((rd_T39 l0 a1_0).f2) x61_3).f0))).setCell ⟨gb180, 1, none⟩ (.int .i64 ((rd_T41 ((rd_T39 l0 a1_0).f2) x61_3).f1))).heap[gb155]? = some (.cells #[.int .i64 0, .int .i64 0, .int .i64 0, .slice none 0 0, .slice none 0 0, .slice none 0 0, .slice none 0 0, .int .i64 0, .int .i64 0, .bool false] 25 (0, 0))) := ⟨by (with_reducible repeat (first | refine blk_drewN ?_ _ | refine blk_drew ?_ | refine blk_alloc ?_ _)); refine blk_far ?_ NB155_180.out _; (with_reducible repeat (first | refine blk_drewN ?_ _ | refine blk_drew ?_ | refine blk_alloc ?_ _)); refine blk_far ?_ NB155_180.out _; (with_reducible repeat (first | refine blk_drewN ?_ _ | refine blk_drew ?_ | refine blk_alloc ?_ _)); exact BK155.out⟩
                  have n6_ : Aside0 (((w68.setCell ⟨gb180, 0, none⟩ (.int .i64 ((rd_T41 ((rd_T39 l0 a1_0).f2) x61_3).f0))).setCell ⟨gb180, 1, none⟩ (.int .i64 ((rd_T41 ((rd_T39 l0 a1_0).f2) x61_3).f1))).heap[gb175]? = some (.cells #[.int .i64 t157, .int .i64 t158, .int .i64 t159, u176003, u176004, u176005, u176006, .int .i64 t172, .int .i64 t173, .bool t174] 25 (0, 0))) := ⟨by (with_reducible repeat (first | refine blk_drewN ?_ _ | refine blk_drew ?_ | refine blk_alloc ?_ _)); refine blk_far ?_ NB175_180.out _; (with_reducible repeat (first | refine blk_drewN ?_ _ | refine blk_drew ?_ | refine blk_alloc ?_ _)); refine blk_far ?_ NB175_180.out _; (with_reducible repeat (first | refine blk_drewN ?_ _ | refine blk_drew ?_ | refine blk_alloc ?_ _)); exact BK175.out⟩
                  have n7_ : Aside0 (((w68.setCell ⟨gb180, 0, none⟩ (.int .i64 ((rd_T41 ((rd_T39 l0 a1_0).f2) x61_3).f0))).setCell ⟨gb180, 1, none⟩ (.int .i64 ((rd_T41 ((rd_T39 l0 a1_0).f2) x61_3).f1))).heap[gb177]? = some (.cells #[.string ((rd_T39 l0 a1_0).f0), .slice A176_1 ((rd_T39 l0 a1_0).f1).length c176_1, .slice (some ad179) ((rd_T39 l0 a1_0).f2).length c176_2] 39 (0, 0))) := ⟨by (with_reducible repeat (first | refine blk_drewN ?_ _ | refine blk_drew ?_ | refine blk_alloc ?_ _)); refine blk_far ?_ NB177_180.out _; (with_reducible repeat (first | refine blk_drewN ?_ _ | refine blk_drew ?_ | refine blk_alloc ?_ _)); refine blk_far ?_ NB177_180.out _; (with_reducible repeat (first | refine blk_drewN ?_ _ | refine blk_drew ?_ | refine blk_alloc ?_ _)); exact BK177.out⟩
                  have n8_ : Aside0 (((w68.setCell ⟨gb180, 0, none⟩ (.int .i64 ((rd_T41 ((rd_T39 l0 a1_0).f2) x61_3).f0))).setCell ⟨gb180, 1, none⟩ (.int .i64 ((rd_T41 ((rd_T39 l0 a1_0).f2) x61_3).f1))).heap[gb180]? = some (.cells #[.int .i64 ((rd_T41 ((rd_T39 l0 a1_0).f2) x61_3).f0), .int .i64 ((rd_T41 ((rd_T39 l0 a1_0).f2) x61_3).f1)] 41 (0, 0))) := ⟨by (with_reducible repeat (first | refine blk_drewN ?_ _ | refine blk_drew ?_ | refine blk_alloc ?_ _)); refine blk_put (cs := #[.int .i64 ((rd_T41 ((rd_T39 l0 a1_0).f2) x61_3).f0), .int .i64 0]) ?_ 1 _ rfl; (with_reducible repeat (first | refine blk_drewN ?_ _ | refine blk_drew ?_ | refine blk_alloc ?_ _)); refine blk_put (cs := #[.int .i64 0, .int .i64 0]) ?_ 0 _ rfl; (with_reducible repeat (first | refine blk_drewN ?_ _ | refine blk_drew ?_ | refine blk_alloc ?_ _)); exact BK180.out⟩
                  have n9_ : Aside0 (Below w.heap.size w ((w68.setCell ⟨gb180, 0, none⟩ (.int .i64 ((rd_T41 ((rd_T39 l0 a1_0).f2) x61_3).f0))).setCell ⟨gb180, 1, none⟩ (.int .i64 ((rd_T41 ((rd_T39 l0 a1_0).f2) x61_3).f1)))) := ⟨by repeat (first | (with_reducible first | exact HB.out | apply below_alloc | apply pw_below_drewN | apply below_drew1 | refine below_set ?_ GE154.out | refine below_set ?_ GE155.out | refine below_set ?_ GE175.out | refine below_set ?_ GE177.out | refine below_set ?_ GE180.out) | exact HB.out)⟩
                  (try clear HO_176003)
                  (try clear HO_176004)
                  (try clear HO_176005)
                  (try clear HO_176006)
                  (try clear BK154)
                  (try clear BK155)
                  (try clear BK175)
                  (try clear BK177)
                  (try clear BK180)
                  (try clear HB)
                  generalize ((w68.setCell ⟨gb180, 0, none⟩ (.int .i64 ((rd_T41 ((rd_T39 l0 a1_0).f2) x61_3).f0))).setCell ⟨gb180, 1, none⟩ (.int .i64 ((rd_T41 ((rd_T39 l0 a1_0).f2) x61_3).f1))) = w74 at n0_ n1_ n2_ n3_ n4_ n5_ n6_ n7_ n8_ n9_ ⊢
                  have HO_176003 := n0_
                  have HO_176004 := n1_
                  have HO_176005 := n2_
                  have HO_176006 := n3_
                  have BK154 := n4_
                  have BK155 := n5_
                  have BK175 := n6_
                  have BK177 := n7_
                  have BK180 := n8_
                  have HB := n9_
                  clear n0_ n1_ n2_ n3_ n4_ n5_ n6_ n7_ n8_ n9_
                  replace HO_176003 := Aside0.mk (Kd.R_drew HO_176003.out)
                  replace HO_176004 := Aside0.mk (Kd.R_drew HO_176004.out)
                  replace HO_176005 := Aside0.mk (Kd.R_drew HO_176005.out)
                  replace HO_176006 := Aside0.mk (Kd.R_drew HO_176006.out)
                  replace BK154 := Aside0.mk (blk_drew BK154.out)
                  replace BK155 := Aside0.mk (blk_drew BK155.out)
                  replace BK175 := Aside0.mk (blk_drew BK175.out)
                  replace BK177 := Aside0.mk (blk_drew BK177.out)
                  replace BK180 := Aside0.mk (blk_drew BK180.out)
                  replace HB := Aside0.mk (below_drew1 HB.out)
                  obtain ⟨Ao76, co76, eo76⟩ := Kd.R_slice HO_176004.out
                  (first | subst eo76 | (injection eo76 with f1_ f2_ f3_; have f4_ := f1_.symm; have f5_ := f3_.symm; clear f1_ f2_ f3_; subst f4_; subst f5_))
                  have p181 : 0 ≤ (x61_3 : Int) := of_decide_eq_true tW_
                  have q181 : x61_3 < (x176004_3.length : Int) := of_decide_eq_true tW_
                  obtain ⟨ad181, e181, hx181_0⟩ := Kd.at_int (Kd.R_reads' HO_176004.out).2.2 x61_3 p181 q181
                  cases e181
                  replace p181 := eq_true p181
                  replace q181 := eq_true q181
                  refine start_ (n := 11) (S := fun w' => w'.cell? ⟨gb175, 0, none⟩ = some (.int .i64 t157) ∧ w'.cell? ⟨gb175, 1, none⟩ = some (.int .i64 t158) ∧ w'.cell? ⟨gb175, 2, none⟩ = some (.int .i64 t159) ∧ w'.cell? ⟨gb175, 3, none⟩ = some (u176003) ∧ w'.cell? ⟨gb175, 4, none⟩ = some (.slice (some ad181) x176004_3.length co76) ∧ w'.cell? ⟨gb175, 5, none⟩ = some (u176005) ∧ w'.cell? ⟨gb175, 6, none⟩ = some (u176006) ∧ w'.cell? ⟨gb175, 7, none⟩ = some (.int .i64 t172) ∧ w'.cell? ⟨gb175, 8, none⟩ = some (.int .i64 t173) ∧ w'.cell? ⟨gb175, 9, none⟩ = some (.bool t174) ∧ w'.cell? ⟨gb180, 0, none⟩ = some (.int .i64 ((rd_T41 ((rd_T39 l0 a1_0).f2) x61_3).f0)) ∧ w'.cell? ⟨gb180, 1, none⟩ = some (.int .i64 ((rd_T41 ((rd_T39 l0 a1_0).f2) x61_3).f1)) ∧ w'.cell? (ad181.add (x61_3).toNat) = some (.int .i64 (rd x176004_3 x61_3))) (ds := []) #[false, false, false, false, false, false, false, false, false, false, false] (by kernel_rfl) rfl rfl ⟨(blk_cell BK175.out 0).trans rfl, (blk_cell BK175.out 1).trans rfl, (blk_cell BK175.out 2).trans rfl, (blk_cell BK175.out 3).trans rfl, (blk_cell BK175.out 4).trans rfl, (blk_cell BK175.out 5).trans rfl, (blk_cell BK175.out 6).trans rfl, (blk_cell BK175.out 7).trans rfl, (blk_cell BK175.out 8).trans rfl, (blk_cell BK175.out 9).trans rfl, (blk_cell BK180.out 0).trans rfl, (blk_cell BK180.out 1).trans rfl, hx181_0⟩ (fun hHeld => ?_); refine with_tabW plant_Bring.tab17 plant_Bring.bits17 (fun HT_ HW_ => ?_)
                  generalize w74.drew = w75 at HO_176003 HO_176004 HO_176005 HO_176006 BK154 BK155 BK175 BK177 BK180 HB hx181_0 hHeld ⊢
                  refine pure_ (i := 0) (N := some 66) (v := ?_) (a' := ?_) (bA 1 11) rfl rfl (any_of HT_.out (by kernel_rfl)) (fun _ _ _ h => h) (Or.inl ⟨by rfl, ?_⟩) ?_ ?_; rotate_left; (intro w'; go_simp; with_reducible rfl); rotate_left; (simp only [Act.put, sI_, s0_, sS_, i64_w, i32_w]; rfl)
                  refine pure_ (i := 2) (N := some 68) (v := ?_) (a' := ?_) #[true, false, true, false, false, false, false, false, false, false, false] rfl rfl (any_of HT_.out (by kernel_rfl)) (fun _ _ _ h => h) (Or.inl ⟨by rfl, ?_⟩) ?_ ?_; rotate_left; (intro w'; go_simp; with_reducible rfl); rotate_left; (simp only [Act.put, sI_, s0_, sS_, i64_w, i32_w]; rfl)
                  refine pure_ (i := 5) (N := some 71) (v := ?_) (a' := ?_) #[true, false, true, false, false, true, false, false, false, false, false] rfl rfl (any_of HT_.out (by kernel_rfl)) (fun _ _ _ h => h) (Or.inl ⟨by rfl, ?_⟩) ?_ ?_; rotate_left; (intro w'; go_simp; with_reducible rfl); rotate_left; (simp only [Act.put, sI_, s0_, sS_, i64_w, i32_w]; rfl)
                  refine pure_ (i := 6) (N := some 72) (v := ?_) (a' := ?_) #[true, false, true, false, false, true, true, false, false, false, false] rfl rfl (any_of HT_.out (by kernel_rfl)) (fun _ _ _ h => h) (Or.inl ⟨by rfl, ?_⟩) ?_ ?_; rotate_left; (intro w'; go_simp; with_reducible rfl); rotate_left; (simp only [Act.put, sI_, s0_, sS_, i64_w, i32_w]; rfl)
                  refine take_ (i := 1) (N := some 67) (v := ?_) (a' := ?_) #[true, true, true, false, false, true, true, false, false, false, false] rfl rfl (take_ofW HT_.out HW_.out (by kernel_rfl)) (fun _ _ _ h => h) (Or.inl ⟨by rfl, ?_⟩) hHeld ?_ ?_; rotate_left; (rintro w' ⟨s0, s1, s2, s3, s4, s5, s6, s7, s8, s9, s10, s11, s12⟩; go_simp; with_reducible rfl); rotate_left; (simp only [Act.put, sI_, s0_, sS_, i64_w, i32_w]; rfl)
                  refine pure_ (i := 3) (N := some 69) (v := ?_) (a' := ?_) #[true, true, true, true, false, true, true, false, false, false, false] rfl rfl (any_of HT_.out (by kernel_rfl)) (fun _ _ _ h => h) (Or.inl ⟨by rfl, ?_⟩) ?_ ?_; rotate_left; (intro w'; go_simp; with_reducible rfl); rotate_left; (simp only [Act.put, sI_, s0_, sS_, i64_w, i32_w]; rfl)
                  refine take_ (i := 4) (N := some 70) (v := ?_) (a' := ?_) (bA 7 11) rfl rfl (take_ofW HT_.out HW_.out (by kernel_rfl)) (fun _ _ _ h => h) (Or.inl ⟨by rfl, ?_⟩) hHeld ?_ ?_; rotate_left; (rintro w' ⟨s0, s1, s2, s3, s4, s5, s6, s7, s8, s9, s10, s11, s12⟩; go_simp; with_reducible rfl); rotate_left; (simp only [Act.put, sI_, s0_, sS_, i64_w, i32_w]; rfl)
                  refine take_ (i := 7) (N := some 73) (v := ?_) (a' := ?_) (bA 8 11) rfl rfl (take_ofW HT_.out HW_.out (by kernel_rfl)) (fun _ _ _ h => h) (Or.inl ⟨by rfl, ?_⟩) hHeld ?_ ?_; rotate_left; (rintro w' ⟨s0, s1, s2, s3, s4, s5, s6, s7, s8, s9, s10, s11, s12⟩; go_simp; with_reducible rfl); rotate_left; (simp only [Act.put, sI_, s0_, sS_, i64_w, i32_w]; rfl)
                  refine pure_ (i := 8) (N := some 74) (v := ?_) (a' := ?_) (bA 9 11) rfl rfl (any_of HT_.out (by kernel_rfl)) (fun _ _ _ h => h) (Or.inl ⟨by rfl, ?_⟩) ?_ ?_; rotate_left; (intro w'; go_simp; with_reducible rfl); rotate_left; (simp only [Act.put, sI_, s0_, sS_, i64_w, i32_w]; rfl)
                  refine pure_ (i := 9) (N := some 75) (v := ?_) (a' := ?_) (bA 10 11) rfl rfl (any_of HT_.out (by kernel_rfl)) (fun _ _ _ h => h) (Or.inl ⟨by rfl, ?_⟩) ?_ ?_; rotate_left; (intro w'; go_simp; with_reducible rfl); rotate_left; (simp only [Act.put, sI_, s0_, sS_, i64_w, i32_w]; rfl)
                  refine pure_ (i := 10) (N := some 19) (v := ?_) (a' := ?_) (bA 11 11) rfl rfl (any_of HT_.out (by kernel_rfl)) (fun _ _ _ h => h) (Or.inl ⟨by rfl, ?_⟩) ?_ ?_; rotate_left; (intro w'; go_simp; with_reducible rfl); rotate_left; (simp only [Act.put, sI_, s0_, sS_, i64_w, i32_w]; rfl)
                  refine done_ (done_of HT_.out (by kernel_rfl)) ?_
                  try go_wp2
                  replace HO_176003 := Aside0.mk (Kd.R_drew HO_176003.out)
                  replace HO_176004 := Aside0.mk (Kd.R_drew HO_176004.out)
                  replace HO_176005 := Aside0.mk (Kd.R_drew HO_176005.out)
                  replace HO_176006 := Aside0.mk (Kd.R_drew HO_176006.out)
                  replace BK154 := Aside0.mk (blk_drew BK154.out)
                  replace BK155 := Aside0.mk (blk_drew BK155.out)
                  replace BK175 := Aside0.mk (blk_drew BK175.out)
                  replace BK177 := Aside0.mk (blk_drew BK177.out)
                  replace BK180 := Aside0.mk (blk_drew BK180.out)
                  replace HB := Aside0.mk (below_drew1 HB.out)
                  obtain ⟨Ao78, co78, eo78⟩ := Kd.R_slice HO_176003.out
                  (first | subst eo78 | (injection eo78 with f1_ f2_ f3_; have f4_ := f1_.symm; have f5_ := f3_.symm; clear f1_ f2_ f3_; subst f4_; subst f5_))
                  have p182 : 0 ≤ (x61_3 : Int) := of_decide_eq_true tW_
                  have q182 : x61_3 < (x176003_3.length : Int) := of_decide_eq_true tW_
                  obtain ⟨ad182, e182, hx182_0⟩ := Kd.at_int (Kd.R_reads' HO_176003.out).2.2 x61_3 p182 q182
                  cases e182
                  replace p182 := eq_true p182
                  replace q182 := eq_true q182
                  have p63 : 0 ≤ (x61_3 : Int) := of_decide_eq_true tW_
                  have q63 : (x61_3 : Int) < ((x176003_3.length : Int) : Int) := of_decide_eq_true tW_
                  obtain ⟨go63, co63, eo63, gb63, gl63, cl63, HG63⟩ := Kd.R_form HO_176003.out (by omega)
                  (first | cases eo63 | (injection eo63 with ea_ en_ ec_; (first | subst ea_ | (injection ea_ with ea_; subst ea_)); subst ec_; clear en_))
                  have GB63 := Aside0.mk gb63
                  have GG63 := Aside0.mk HG63
                  clear gb63 gl63 HG63
                  (first | simp only [add_plain] at hx182_0 | skip)
                  obtain ⟨hx63_0, hf63_0⟩ := Kd.R_celln 0 HO_176003.out (x61_3 : Int) p63 q63
                  replace p63 := eq_true p63
                  replace q63 := eq_true q63
                  have HP79 := Kd.R_putn HO_176003.out (x61_3 : Int) ji62
                  rw [← Ny183.out] at HP79
                  have HQ79 := Aside0.mk HP79
                  clear HP79
                  refine start_ (n := 14) (S := fun w' => w'.cell? ⟨gb175, 0, none⟩ = some (.int .i64 t157) ∧ w'.cell? ⟨gb175, 1, none⟩ = some (.int .i64 t158) ∧ w'.cell? ⟨gb175, 2, none⟩ = some (.int .i64 t159) ∧ w'.cell? ⟨gb175, 3, none⟩ = some (.slice (some ⟨go63, 0, none⟩) x176003_3.length co78) ∧ w'.cell? ⟨gb175, 4, none⟩ = some (.slice (some ad181) x176004_3.length co76) ∧ w'.cell? ⟨gb175, 5, none⟩ = some (u176005) ∧ w'.cell? ⟨gb175, 6, none⟩ = some (u176006) ∧ w'.cell? ⟨gb175, 7, none⟩ = some (.int .i64 t172) ∧ w'.cell? ⟨gb175, 8, none⟩ = some (.int .i64 t173) ∧ w'.cell? ⟨gb175, 9, none⟩ = some (.bool t174) ∧ w'.cell? ⟨go63, (x61_3).toNat, none⟩ = some (.int .i64 (rd x176003_3 x61_3))) (ds := [13]) #[false, false, false, false, false, false, false, false, false, false, false, false, false, false] (by kernel_rfl) rfl rfl ⟨(blk_cell BK175.out 0).trans rfl, (blk_cell BK175.out 1).trans rfl, (blk_cell BK175.out 2).trans rfl, (blk_cell BK175.out 3).trans rfl, (blk_cell BK175.out 4).trans rfl, (blk_cell BK175.out 5).trans rfl, (blk_cell BK175.out 6).trans rfl, (blk_cell BK175.out 7).trans rfl, (blk_cell BK175.out 8).trans rfl, (blk_cell BK175.out 9).trans rfl, hx182_0⟩ (fun hHeld => ?_); refine with_tabW plant_Bring.tab18 plant_Bring.bits18 (fun HT_ HW_ => ?_)
                  generalize w75.drew = w77 at HO_176003 HO_176004 HO_176005 HO_176006 BK154 BK155 BK175 BK177 BK180 HB GG63 HQ79 hf63_0 hx182_0 hx63_0 hHeld ⊢
                  refine pure_ (i := 0) (N := some 76) (v := ?_) (a' := ?_) (bA 1 14) rfl rfl (any_of HT_.out (by kernel_rfl)) (fun _ _ _ h => h) (Or.inl ⟨by rfl, ?_⟩) ?_ ?_; rotate_left; (intro w'; go_simp; with_reducible rfl); rotate_left; (simp only [Act.put, sI_, s0_, sS_, i64_w, i32_w]; rfl)
                  refine pure_ (i := 2) (N := some 78) (v := ?_) (a' := ?_) #[true, false, true, false, false, false, false, false, false, false, false, false, false, false] rfl rfl (any_of HT_.out (by kernel_rfl)) (fun _ _ _ h => h) (Or.inl ⟨by rfl, ?_⟩) ?_ ?_; rotate_left; (intro w'; go_simp; with_reducible rfl); rotate_left; (simp only [Act.put, sI_, s0_, sS_, i64_w, i32_w]; rfl)
                  refine pure_ (i := 3) (N := some 79) (v := ?_) (a' := ?_) #[true, false, true, true, false, false, false, false, false, false, false, false, false, false] rfl rfl (any_of HT_.out (by kernel_rfl)) (fun _ _ _ h => h) (Or.inl ⟨by rfl, ?_⟩) ?_ ?_; rotate_left; (intro w'; go_simp; with_reducible rfl); rotate_left; (simp only [Act.put, sI_, s0_, sS_, i64_w, i32_w]; rfl)
                  refine pure_ (i := 5) (N := some 81) (v := ?_) (a' := ?_) #[true, false, true, true, false, true, false, false, false, false, false, false, false, false] rfl rfl (any_of HT_.out (by kernel_rfl)) (fun _ _ _ h => h) (Or.inl ⟨by rfl, ?_⟩) ?_ ?_; rotate_left; (intro w'; go_simp; with_reducible rfl); rotate_left; (simp only [Act.put, sI_, s0_, sS_, i64_w, i32_w]; rfl)
                  refine pure_ (i := 8) (N := some 84) (v := ?_) (a' := ?_) #[true, false, true, true, false, true, false, false, true, false, false, false, false, false] rfl rfl (any_of HT_.out (by kernel_rfl)) (fun _ _ _ h => h) (Or.inl ⟨by rfl, ?_⟩) ?_ ?_; rotate_left; (intro w'; go_simp; with_reducible rfl); rotate_left; (simp only [Act.put, sI_, s0_, sS_, i64_w, i32_w]; rfl)
                  refine pure_ (i := 9) (N := some 85) (v := ?_) (a' := ?_) #[true, false, true, true, false, true, false, false, true, true, false, false, false, false] rfl rfl (any_of HT_.out (by kernel_rfl)) (fun _ _ _ h => h) (Or.inl ⟨by rfl, ?_⟩) ?_ ?_; rotate_left; (intro w'; go_simp; with_reducible rfl); rotate_left; (simp only [Act.put, sI_, s0_, sS_, i64_w, i32_w]; rfl)
                  refine take_ (i := 1) (N := some 77) (v := ?_) (a' := ?_) #[true, true, true, true, false, true, false, false, true, true, false, false, false, false] rfl rfl (take_ofW HT_.out HW_.out (by kernel_rfl)) (fun _ _ _ h => h) (Or.inl ⟨by rfl, ?_⟩) hHeld ?_ ?_; rotate_left; (rintro w' ⟨s0, s1, s2, s3, s4, s5, s6, s7, s8, s9, s10⟩; go_simp; with_reducible rfl); rotate_left; (simp only [Act.put, sI_, s0_, sS_, i64_w, i32_w]; rfl)
                  refine take_ (i := 4) (N := some 80) (v := ?_) (a' := ?_) #[true, true, true, true, true, true, false, false, true, true, false, false, false, false] rfl rfl (take_ofW HT_.out HW_.out (by kernel_rfl)) (fun _ _ _ h => h) (Or.inl ⟨by rfl, ?_⟩) hHeld ?_ ?_; rotate_left; (rintro w' ⟨s0, s1, s2, s3, s4, s5, s6, s7, s8, s9, s10⟩; go_simp; with_reducible rfl); rotate_left; (simp only [Act.put, sI_, s0_, sS_, i64_w, i32_w]; rfl)
                  refine pure_ (i := 6) (N := some 82) (v := ?_) (a' := ?_) #[true, true, true, true, true, true, true, false, true, true, false, false, false, false] rfl rfl (any_of HT_.out (by kernel_rfl)) (fun _ _ _ h => h) (Or.inl ⟨by rfl, ?_⟩) ?_ ?_; rotate_left; (intro w'; go_simp; with_reducible rfl); rotate_left; (simp only [Act.put, sI_, s0_, sS_, i64_w, i32_w]; rfl)
                  refine take_ (i := 7) (N := some 83) (v := ?_) (a' := ?_) (bA 10 14) rfl rfl (take_ofW HT_.out HW_.out (by kernel_rfl)) (fun _ _ _ h => h) (Or.inl ⟨by rfl, ?_⟩) hHeld ?_ ?_; rotate_left; (rintro w' ⟨s0, s1, s2, s3, s4, s5, s6, s7, s8, s9, s10⟩; go_simp; with_reducible rfl); rotate_left; (simp only [Act.put, sI_, s0_, sS_, i64_w, i32_w]; rfl)
                  refine pure_ (i := 10) (N := some 86) (v := ?_) (a' := ?_) (bA 11 14) rfl rfl (any_of HT_.out (by kernel_rfl)) (fun _ _ _ h => h) (Or.inl ⟨by rfl, ?_⟩) ?_ ?_; rotate_left; (intro w'; go_simp; with_reducible rfl); rotate_left; (simp only [Act.put, sI_, s0_, sS_, i64_w, i32_w]; rfl)
                  refine pure_ (i := 11) (N := some 87) (v := ?_) (a' := ?_) (bA 12 14) rfl rfl (any_of HT_.out (by kernel_rfl)) (fun _ _ _ h => h) (Or.inl ⟨by rfl, ?_⟩) ?_ ?_; rotate_left; (intro w'; go_simp; with_reducible rfl); rotate_left; (simp only [Act.put, sI_, s0_, sS_, i64_w, i32_w]; rfl)
                  refine pure_ (i := 12) (N := some 88) (v := ?_) (a' := ?_) (bA 13 14) rfl rfl (any_of HT_.out (by kernel_rfl)) (fun _ _ _ h => h) (Or.inl ⟨by rfl, ?_⟩) ?_ ?_; rotate_left; (intro w'; go_simp; with_reducible rfl); rotate_left; (simp only [Act.put, sI_, s0_, sS_, i64_w, i32_w]; rfl)
                  refine last_ (i := 13) (N := none) #[true, true, true, true, true, true, true, true, true, true, true, true, true, true] rfl rfl (one_of HT_.out (by kernel_rfl)) (by decide) (fun K hK => ?_)
                  refine skip_ (w1 := ?_) (by rfl) rfl ?_ ?_
                  rotate_left
                  ·go_simp
                   rfl
                  refine hK.out _ _ ?_
                  clear hK K
                  refine done_ (done_of HT_.out (by kernel_rfl)) ?_
                  try go_wp2
                  have n0_ : Aside0 (Kd.R (Kd.int .i64) 3 (w77.setCell ⟨go63, (x61_3 : Int).toNat, none⟩ (.int .i64 ji62)) w.heap.size (fun k_ => some k_ ≠ (.slice (some ad181) x176004_3.length co76 : Value).ownBlock ∧ some k_ ≠ (u176005 : Value).ownBlock ∧ some k_ ≠ (u176006 : Value).ownBlock) (.slice (some ⟨go63, 0, none⟩) x176003_3.length co78) y183) := ⟨dR_ HQ79⟩
                  have n1_ : Aside0 (Kd.R (Kd.int .i64) 3 (w77.setCell ⟨go63, (x61_3 : Int).toNat, none⟩ (.int .i64 ji62)) w.heap.size (fun k_ => some k_ ≠ (.slice (some ⟨go63, 0, none⟩) x176003_3.length co78 : Value).ownBlock ∧ some k_ ≠ (u176005 : Value).ownBlock ∧ some k_ ≠ (u176006 : Value).ownBlock) (.slice (some ad181) x176004_3.length co76) x176004_3) := ⟨by (with_reducible repeat (first | apply Kd.R_alloc | apply Kd.R_drewN | apply Kd.R_drew)); exact Kd.R_mono (Kd.R_far (p := ⟨go63, (x61_3 : Int).toNat, none⟩) (Kd.R_mono HO_176004.out (fun k_ hk => (⟨hk, fun e_ => hk.1 (by rw [e_]; rfl)⟩ : _ ∧ k_ ≠ go63))) (fun _ hk => hk.2) (.int .i64 ji62)) (fun _ hk => ⟨hk.1.1, ⟨hk.1.2.1, hk.1.2.2⟩⟩)⟩
                  have n2_ : Aside0 (Kd.R (Kd.int .i64) 3 (w77.setCell ⟨go63, (x61_3 : Int).toNat, none⟩ (.int .i64 ji62)) w.heap.size (fun k_ => some k_ ≠ (.slice (some ⟨go63, 0, none⟩) x176003_3.length co78 : Value).ownBlock ∧ some k_ ≠ (.slice (some ad181) x176004_3.length co76 : Value).ownBlock ∧ some k_ ≠ (u176006 : Value).ownBlock) u176005 x176005_3) := ⟨by (with_reducible repeat (first | apply Kd.R_alloc | apply Kd.R_drewN | apply Kd.R_drew)); exact Kd.R_mono (Kd.R_far (p := ⟨go63, (x61_3 : Int).toNat, none⟩) (Kd.R_mono HO_176005.out (fun k_ hk => (⟨hk, fun e_ => hk.1 (by rw [e_]; rfl)⟩ : _ ∧ k_ ≠ go63))) (fun _ hk => hk.2) (.int .i64 ji62)) (fun _ hk => ⟨hk.1.1, ⟨hk.1.2.1, hk.1.2.2⟩⟩)⟩
                  have n3_ : Aside0 (Kd.R (Kd.int .i64) 3 (w77.setCell ⟨go63, (x61_3 : Int).toNat, none⟩ (.int .i64 ji62)) w.heap.size (fun k_ => some k_ ≠ (.slice (some ⟨go63, 0, none⟩) x176003_3.length co78 : Value).ownBlock ∧ some k_ ≠ (.slice (some ad181) x176004_3.length co76 : Value).ownBlock ∧ some k_ ≠ (u176005 : Value).ownBlock) u176006 x176006_3) := ⟨by (with_reducible repeat (first | apply Kd.R_alloc | apply Kd.R_drewN | apply Kd.R_drew)); exact Kd.R_mono (Kd.R_far (p := ⟨go63, (x61_3 : Int).toNat, none⟩) (Kd.R_mono HO_176006.out (fun k_ hk => (⟨hk, fun e_ => hk.1 (by rw [e_]; rfl)⟩ : _ ∧ k_ ≠ go63))) (fun _ hk => hk.2) (.int .i64 ji62)) (fun _ hk => ⟨hk.1.1, ⟨hk.1.2.1, hk.1.2.2⟩⟩)⟩
                  have n4_ : Aside0 ((w77.setCell ⟨go63, (x61_3 : Int).toNat, none⟩ (.int .i64 ji62)).heap[gb154]? = some (.cells #[.int .i64 a1_0, .int .i64 a1_1, .int .i64 a1_2, .slice A1_3 l1_3.length c1_3, .slice A1_4 l1_4.length c1_4, .slice A1_5 l1_5.length c1_5, .slice A1_6 l1_6.length c1_6, .int .i64 a1_7, .int .i64 a1_8, .bool a1_9] 25 (0, 0))) := ⟨by (with_reducible repeat (first | refine blk_drewN ?_ _ | refine blk_drew ?_ | refine blk_alloc ?_ _)); refine blk_far ?_ (by have h_ := Kd.R_ne HO_176003.out BK154.out (by decide); intro e_; exact h_ (by rw [e_]; rfl)) _; (with_reducible repeat (first | refine blk_drewN ?_ _ | refine blk_drew ?_ | refine blk_alloc ?_ _)); exact BK154.out⟩
                  have n5_ : Aside0 ((w77.setCell ⟨go63, (x61_3 : Int).toNat, none⟩ (.int .i64 ji62)).heap[gb155]? = some (.cells #[.int .i64 0, .int .i64 0, .int .i64 0, .slice none 0 0, .slice none 0 0, .slice none 0 0, .slice none 0 0, .int .i64 0, .int .i64 0, .bool false] 25 (0, 0))) := ⟨by (with_reducible repeat (first | refine blk_drewN ?_ _ | refine blk_drew ?_ | refine blk_alloc ?_ _)); refine blk_far ?_ (by have h_ := Kd.R_ne HO_176003.out BK155.out (by decide); intro e_; exact h_ (by rw [e_]; rfl)) _; (with_reducible repeat (first | refine blk_drewN ?_ _ | refine blk_drew ?_ | refine blk_alloc ?_ _)); exact BK155.out⟩
                  have n6_ : Aside0 ((w77.setCell ⟨go63, (x61_3 : Int).toNat, none⟩ (.int .i64 ji62)).heap[gb175]? = some (.cells #[.int .i64 t157, .int .i64 t158, .int .i64 t159, .slice (some ⟨go63, 0, none⟩) x176003_3.length co78, .slice (some ad181) x176004_3.length co76, u176005, u176006, .int .i64 t172, .int .i64 t173, .bool t174] 25 (0, 0))) := ⟨by (with_reducible repeat (first | refine blk_drewN ?_ _ | refine blk_drew ?_ | refine blk_alloc ?_ _)); refine blk_far ?_ (by have h_ := Kd.R_ne HO_176003.out BK175.out (by decide); intro e_; exact h_ (by rw [e_]; rfl)) _; (with_reducible repeat (first | refine blk_drewN ?_ _ | refine blk_drew ?_ | refine blk_alloc ?_ _)); exact BK175.out⟩
                  have n7_ : Aside0 ((w77.setCell ⟨go63, (x61_3 : Int).toNat, none⟩ (.int .i64 ji62)).heap[gb177]? = some (.cells #[.string ((rd_T39 l0 a1_0).f0), .slice A176_1 ((rd_T39 l0 a1_0).f1).length c176_1, .slice (some ad179) ((rd_T39 l0 a1_0).f2).length c176_2] 39 (0, 0))) := ⟨by (with_reducible repeat (first | refine blk_drewN ?_ _ | refine blk_drew ?_ | refine blk_alloc ?_ _)); refine blk_far ?_ (by have h_ := Kd.R_ne HO_176003.out BK177.out (by decide); intro e_; exact h_ (by rw [e_]; rfl)) _; (with_reducible repeat (first | refine blk_drewN ?_ _ | refine blk_drew ?_ | refine blk_alloc ?_ _)); exact BK177.out⟩
                  have n8_ : Aside0 ((w77.setCell ⟨go63, (x61_3 : Int).toNat, none⟩ (.int .i64 ji62)).heap[gb180]? = some (.cells #[.int .i64 ((rd_T41 ((rd_T39 l0 a1_0).f2) x61_3).f0), .int .i64 ((rd_T41 ((rd_T39 l0 a1_0).f2) x61_3).f1)] 41 (0, 0))) := ⟨by (with_reducible repeat (first | refine blk_drewN ?_ _ | refine blk_drew ?_ | refine blk_alloc ?_ _)); refine blk_far ?_ (by have h_ := Kd.R_ne HO_176003.out BK180.out (by decide); intro e_; exact h_ (by rw [e_]; rfl)) _; (with_reducible repeat (first | refine blk_drewN ?_ _ | refine blk_drew ?_ | refine blk_alloc ?_ _)); exact BK180.out⟩
                  have n9_ : Aside0 (Below w.heap.size w (w77.setCell ⟨go63, (x61_3 : Int).toNat, none⟩ (.int .i64 ji62))) := ⟨by repeat (first | (with_reducible first | exact HB.out | apply below_alloc | apply pw_below_drewN | apply below_drew1 | refine below_set ?_ GB63.out | refine below_set ?_ GE154.out | refine below_set ?_ GE155.out | refine below_set ?_ GE175.out | refine below_set ?_ GE177.out | refine below_set ?_ GE180.out) | exact HB.out)⟩
                  (try clear HO_176003)
                  (try clear HO_176004)
                  (try clear HO_176005)
                  (try clear HO_176006)
                  (try clear BK154)
                  (try clear BK155)
                  (try clear BK175)
                  (try clear BK177)
                  (try clear BK180)
                  (try clear HB)
                  generalize (w77.setCell ⟨go63, (x61_3 : Int).toNat, none⟩ (.int .i64 ji62)) = w80 at n0_ n1_ n2_ n3_ n4_ n5_ n6_ n7_ n8_ n9_ ⊢
                  have HO_176003 := n0_
                  have HO_176004 := n1_
                  have HO_176005 := n2_
                  have HO_176006 := n3_
                  have BK154 := n4_
                  have BK155 := n5_
                  have BK175 := n6_
                  have BK177 := n7_
                  have BK180 := n8_
                  have HB := n9_
                  clear n0_ n1_ n2_ n3_ n4_ n5_ n6_ n7_ n8_ n9_
                  replace HO_176003 := Aside0.mk (Kd.R_drew HO_176003.out)
                  replace HO_176004 := Aside0.mk (Kd.R_drew HO_176004.out)
                  replace HO_176005 := Aside0.mk (Kd.R_drew HO_176005.out)
                  replace HO_176006 := Aside0.mk (Kd.R_drew HO_176006.out)
                  replace BK154 := Aside0.mk (blk_drew BK154.out)
                  replace BK155 := Aside0.mk (blk_drew BK155.out)
                  replace BK175 := Aside0.mk (blk_drew BK175.out)
                  replace BK177 := Aside0.mk (blk_drew BK177.out)
                  replace BK180 := Aside0.mk (blk_drew BK180.out)
                  replace HB := Aside0.mk (below_drew1 HB.out)
                  obtain ⟨Ao82, co82, eo82⟩ := Kd.R_slice HO_176005.out
                  (first | subst eo82 | (injection eo82 with f1_ f2_ f3_; have f4_ := f1_.symm; have f5_ := f3_.symm; clear f1_ f2_ f3_; subst f4_; subst f5_))
                  have p184 : 0 ≤ (x61_3 : Int) := of_decide_eq_true tW_
                  have q184 : x61_3 < (x176005_3.length : Int) := of_decide_eq_true tW_
                  obtain ⟨ad184, e184, hx184_0⟩ := Kd.at_int (Kd.R_reads' HO_176005.out).2.2 x61_3 p184 q184
                  cases e184
                  replace p184 := eq_true p184
                  replace q184 := eq_true q184
                  have p66 : 0 ≤ (x61_3 : Int) := of_decide_eq_true tW_
                  have q66 : (x61_3 : Int) < ((x176005_3.length : Int) : Int) := of_decide_eq_true tW_
                  obtain ⟨go66, co66, eo66, gb66, gl66, cl66, HG66⟩ := Kd.R_form HO_176005.out (by omega)
                  (first | cases eo66 | (injection eo66 with ea_ en_ ec_; (first | subst ea_ | (injection ea_ with ea_; subst ea_)); subst ec_; clear en_))
                  have GB66 := Aside0.mk gb66
                  have GG66 := Aside0.mk HG66
                  clear gb66 gl66 HG66
                  (first | simp only [add_plain] at hx184_0 | skip)
                  obtain ⟨hx66_0, hf66_0⟩ := Kd.R_celln 0 HO_176005.out (x61_3 : Int) p66 q66
                  replace p66 := eq_true p66
                  replace q66 := eq_true q66
                  have HP83 := Kd.R_putn HO_176005.out (x61_3 : Int) ji65
                  rw [← Ny185.out] at HP83
                  have HQ83 := Aside0.mk HP83
                  clear HP83
                  refine start_ (n := 14) (S := fun w' => w'.cell? ⟨gb175, 0, none⟩ = some (.int .i64 t157) ∧ w'.cell? ⟨gb175, 1, none⟩ = some (.int .i64 t158) ∧ w'.cell? ⟨gb175, 2, none⟩ = some (.int .i64 t159) ∧ w'.cell? ⟨gb175, 3, none⟩ = some (.slice (some ⟨go63, 0, none⟩) x176003_3.length co78) ∧ w'.cell? ⟨gb175, 4, none⟩ = some (.slice (some ad181) x176004_3.length co76) ∧ w'.cell? ⟨gb175, 5, none⟩ = some (.slice (some ⟨go66, 0, none⟩) x176005_3.length co82) ∧ w'.cell? ⟨gb175, 6, none⟩ = some (u176006) ∧ w'.cell? ⟨gb175, 7, none⟩ = some (.int .i64 t172) ∧ w'.cell? ⟨gb175, 8, none⟩ = some (.int .i64 t173) ∧ w'.cell? ⟨gb175, 9, none⟩ = some (.bool t174) ∧ w'.cell? ⟨go66, (x61_3).toNat, none⟩ = some (.int .i64 (rd x176005_3 x61_3))) (ds := [13]) #[false, false, false, false, false, false, false, false, false, false, false, false, false, false] (by kernel_rfl) rfl rfl ⟨(blk_cell BK175.out 0).trans rfl, (blk_cell BK175.out 1).trans rfl, (blk_cell BK175.out 2).trans rfl, (blk_cell BK175.out 3).trans rfl, (blk_cell BK175.out 4).trans rfl, (blk_cell BK175.out 5).trans rfl, (blk_cell BK175.out 6).trans rfl, (blk_cell BK175.out 7).trans rfl, (blk_cell BK175.out 8).trans rfl, (blk_cell BK175.out 9).trans rfl, hx184_0⟩ (fun hHeld => ?_); refine with_tabW plant_Bring.tab19 plant_Bring.bits19 (fun HT_ HW_ => ?_)
                  generalize w80.drew = w81 at HO_176003 HO_176004 HO_176005 HO_176006 BK154 BK155 BK175 BK177 BK180 HB GG66 HQ79 HQ83 hf66_0 hx184_0 hx66_0 hHeld ⊢
                  refine pure_ (i := 0) (N := some 89) (v := ?_) (a' := ?_) (bA 1 14) rfl rfl (any_of HT_.out (by kernel_rfl)) (fun _ _ _ h => h) (Or.inl ⟨by rfl, ?_⟩) ?_ ?_; rotate_left; (intro w'; go_simp; with_reducible rfl); rotate_left; (simp only [Act.put, sI_, s0_, sS_, i64_w, i32_w]; rfl)
                  refine pure_ (i := 2) (N := some 91) (v := ?_) (a' := ?_) #[true, false, true, false, false, false, false, false, false, false, false, false, false, false] rfl rfl (any_of HT_.out (by kernel_rfl)) (fun _ _ _ h => h) (Or.inl ⟨by rfl, ?_⟩) ?_ ?_; rotate_left; (intro w'; go_simp; with_reducible rfl); rotate_left; (simp only [Act.put, sI_, s0_, sS_, i64_w, i32_w]; rfl)
                  refine pure_ (i := 3) (N := some 92) (v := ?_) (a' := ?_) #[true, false, true, true, false, false, false, false, false, false, false, false, false, false] rfl rfl (any_of HT_.out (by kernel_rfl)) (fun _ _ _ h => h) (Or.inl ⟨by rfl, ?_⟩) ?_ ?_; rotate_left; (intro w'; go_simp; with_reducible rfl); rotate_left; (simp only [Act.put, sI_, s0_, sS_, i64_w, i32_w]; rfl)
                  refine pure_ (i := 5) (N := some 94) (v := ?_) (a' := ?_) #[true, false, true, true, false, true, false, false, false, false, false, false, false, false] rfl rfl (any_of HT_.out (by kernel_rfl)) (fun _ _ _ h => h) (Or.inl ⟨by rfl, ?_⟩) ?_ ?_; rotate_left; (intro w'; go_simp; with_reducible rfl); rotate_left; (simp only [Act.put, sI_, s0_, sS_, i64_w, i32_w]; rfl)
                  refine pure_ (i := 8) (N := some 97) (v := ?_) (a' := ?_) #[true, false, true, true, false, true, false, false, true, false, false, false, false, false] rfl rfl (any_of HT_.out (by kernel_rfl)) (fun _ _ _ h => h) (Or.inl ⟨by rfl, ?_⟩) ?_ ?_; rotate_left; (intro w'; go_simp; with_reducible rfl); rotate_left; (simp only [Act.put, sI_, s0_, sS_, i64_w, i32_w]; rfl)
                  refine pure_ (i := 9) (N := some 98) (v := ?_) (a' := ?_) #[true, false, true, true, false, true, false, false, true, true, false, false, false, false] rfl rfl (any_of HT_.out (by kernel_rfl)) (fun _ _ _ h => h) (Or.inl ⟨by rfl, ?_⟩) ?_ ?_; rotate_left; (intro w'; go_simp; with_reducible rfl); rotate_left; (simp only [Act.put, sI_, s0_, sS_, i64_w, i32_w]; rfl)
                  refine take_ (i := 1) (N := some 90) (v := ?_) (a' := ?_) #[true, true, true, true, false, true, false, false, true, true, false, false, false, false] rfl rfl (take_ofW HT_.out HW_.out (by kernel_rfl)) (fun _ _ _ h => h) (Or.inl ⟨by rfl, ?_⟩) hHeld ?_ ?_; rotate_left; (rintro w' ⟨s0, s1, s2, s3, s4, s5, s6, s7, s8, s9, s10⟩; go_simp; with_reducible rfl); rotate_left; (simp only [Act.put, sI_, s0_, sS_, i64_w, i32_w]; rfl)
                  refine take_ (i := 4) (N := some 93) (v := ?_) (a' := ?_) #[true, true, true, true, true, true, false, false, true, true, false, false, false, false] rfl rfl (take_ofW HT_.out HW_.out (by kernel_rfl)) (fun _ _ _ h => h) (Or.inl ⟨by rfl, ?_⟩) hHeld ?_ ?_; rotate_left; (rintro w' ⟨s0, s1, s2, s3, s4, s5, s6, s7, s8, s9, s10⟩; go_simp; with_reducible rfl); rotate_left; (simp only [Act.put, sI_, s0_, sS_, i64_w, i32_w]; rfl)
                  refine pure_ (i := 6) (N := some 95) (v := ?_) (a' := ?_) #[true, true, true, true, true, true, true, false, true, true, false, false, false, false] rfl rfl (any_of HT_.out (by kernel_rfl)) (fun _ _ _ h => h) (Or.inl ⟨by rfl, ?_⟩) ?_ ?_; rotate_left; (intro w'; go_simp; with_reducible rfl); rotate_left; (simp only [Act.put, sI_, s0_, sS_, i64_w, i32_w]; rfl)
                  refine take_ (i := 7) (N := some 96) (v := ?_) (a' := ?_) (bA 10 14) rfl rfl (take_ofW HT_.out HW_.out (by kernel_rfl)) (fun _ _ _ h => h) (Or.inl ⟨by rfl, ?_⟩) hHeld ?_ ?_; rotate_left; (rintro w' ⟨s0, s1, s2, s3, s4, s5, s6, s7, s8, s9, s10⟩; go_simp; with_reducible rfl); rotate_left; (simp only [Act.put, sI_, s0_, sS_, i64_w, i32_w]; rfl)
                  refine pure_ (i := 10) (N := some 99) (v := ?_) (a' := ?_) (bA 11 14) rfl rfl (any_of HT_.out (by kernel_rfl)) (fun _ _ _ h => h) (Or.inl ⟨by rfl, ?_⟩) ?_ ?_; rotate_left; (intro w'; go_simp; with_reducible rfl); rotate_left; (simp only [Act.put, sI_, s0_, sS_, i64_w, i32_w]; rfl)
                  refine pure_ (i := 11) (N := some 100) (v := ?_) (a' := ?_) (bA 12 14) rfl rfl (any_of HT_.out (by kernel_rfl)) (fun _ _ _ h => h) (Or.inl ⟨by rfl, ?_⟩) ?_ ?_; rotate_left; (intro w'; go_simp; with_reducible rfl); rotate_left; (simp only [Act.put, sI_, s0_, sS_, i64_w, i32_w]; rfl)
                  refine pure_ (i := 12) (N := some 101) (v := ?_) (a' := ?_) (bA 13 14) rfl rfl (any_of HT_.out (by kernel_rfl)) (fun _ _ _ h => h) (Or.inl ⟨by rfl, ?_⟩) ?_ ?_; rotate_left; (intro w'; go_simp; with_reducible rfl); rotate_left; (simp only [Act.put, sI_, s0_, sS_, i64_w, i32_w]; rfl)
                  refine last_ (i := 13) (N := none) #[true, true, true, true, true, true, true, true, true, true, true, true, true, true] rfl rfl (one_of HT_.out (by kernel_rfl)) (by decide) (fun K hK => ?_)
                  refine skip_ (w1 := ?_) (by rfl) rfl ?_ ?_
                  rotate_left
                  ·go_simp
                   rfl
                  refine hK.out _ _ ?_
                  clear hK K
                  refine done_ (done_of HT_.out (by kernel_rfl)) ?_
                  have n0_ : Aside0 (Kd.R (Kd.int .i64) 3 (w81.setCell ⟨go66, (x61_3 : Int).toNat, none⟩ (.int .i64 ji65)) w.heap.size (fun k_ => some k_ ≠ (.slice (some ad181) x176004_3.length co76 : Value).ownBlock ∧ some k_ ≠ (.slice (some ⟨go66, 0, none⟩) x176005_3.length co82 : Value).ownBlock ∧ some k_ ≠ (u176006 : Value).ownBlock) (.slice (some ⟨go63, 0, none⟩) x176003_3.length co78) y183) := ⟨by (with_reducible repeat (first | apply Kd.R_alloc | apply Kd.R_drewN | apply Kd.R_drew)); exact Kd.R_mono (Kd.R_far (p := ⟨go66, (x61_3 : Int).toNat, none⟩) (Kd.R_mono HO_176003.out (fun k_ hk => (⟨hk, fun e_ => hk.2.1 (by rw [e_]; rfl)⟩ : _ ∧ k_ ≠ go66))) (fun _ hk => hk.2) (.int .i64 ji65)) (fun _ hk => ⟨hk.1.1, ⟨hk.1.2.1, hk.1.2.2⟩⟩)⟩
                  have n1_ : Aside0 (Kd.R (Kd.int .i64) 3 (w81.setCell ⟨go66, (x61_3 : Int).toNat, none⟩ (.int .i64 ji65)) w.heap.size (fun k_ => some k_ ≠ (.slice (some ⟨go63, 0, none⟩) x176003_3.length co78 : Value).ownBlock ∧ some k_ ≠ (.slice (some ⟨go66, 0, none⟩) x176005_3.length co82 : Value).ownBlock ∧ some k_ ≠ (u176006 : Value).ownBlock) (.slice (some ad181) x176004_3.length co76) x176004_3) := ⟨by (with_reducible repeat (first | apply Kd.R_alloc | apply Kd.R_drewN | apply Kd.R_drew)); exact Kd.R_mono (Kd.R_far (p := ⟨go66, (x61_3 : Int).toNat, none⟩) (Kd.R_mono HO_176004.out (fun k_ hk => (⟨hk, fun e_ => hk.2.1 (by rw [e_]; rfl)⟩ : _ ∧ k_ ≠ go66))) (fun _ hk => hk.2) (.int .i64 ji65)) (fun _ hk => ⟨hk.1.1, ⟨hk.1.2.1, hk.1.2.2⟩⟩)⟩
                  have n2_ : Aside0 (Kd.R (Kd.int .i64) 3 (w81.setCell ⟨go66, (x61_3 : Int).toNat, none⟩ (.int .i64 ji65)) w.heap.size (fun k_ => some k_ ≠ (.slice (some ⟨go63, 0, none⟩) x176003_3.length co78 : Value).ownBlock ∧ some k_ ≠ (.slice (some ad181) x176004_3.length co76 : Value).ownBlock ∧ some k_ ≠ (u176006 : Value).ownBlock) (.slice (some ⟨go66, 0, none⟩) x176005_3.length co82) y185) := ⟨dR_ HQ83⟩
                  have n3_ : Aside0 (Kd.R (Kd.int .i64) 3 (w81.setCell ⟨go66, (x61_3 : Int).toNat, none⟩ (.int .i64 ji65)) w.heap.size (fun k_ => some k_ ≠ (.slice (some ⟨go63, 0, none⟩) x176003_3.length co78 : Value).ownBlock ∧ some k_ ≠ (.slice (some ad181) x176004_3.length co76 : Value).ownBlock ∧ some k_ ≠ (.slice (some ⟨go66, 0, none⟩) x176005_3.length co82 : Value).ownBlock) u176006 x176006_3) := ⟨by (with_reducible repeat (first | apply Kd.R_alloc | apply Kd.R_drewN | apply Kd.R_drew)); exact Kd.R_mono (Kd.R_far (p := ⟨go66, (x61_3 : Int).toNat, none⟩) (Kd.R_mono HO_176006.out (fun k_ hk => (⟨hk, fun e_ => hk.2.2 (by rw [e_]; rfl)⟩ : _ ∧ k_ ≠ go66))) (fun _ hk => hk.2) (.int .i64 ji65)) (fun _ hk => ⟨hk.1.1, ⟨hk.1.2.1, hk.1.2.2⟩⟩)⟩
                  have n4_ : Aside0 ((w81.setCell ⟨go66, (x61_3 : Int).toNat, none⟩ (.int .i64 ji65)).heap[gb154]? = some (.cells #[.int .i64 a1_0, .int .i64 a1_1, .int .i64 a1_2, .slice A1_3 l1_3.length c1_3, .slice A1_4 l1_4.length c1_4, .slice A1_5 l1_5.length c1_5, .slice A1_6 l1_6.length c1_6, .int .i64 a1_7, .int .i64 a1_8, .bool a1_9] 25 (0, 0))) := ⟨by (with_reducible repeat (first | refine blk_drewN ?_ _ | refine blk_drew ?_ | refine blk_alloc ?_ _)); refine blk_far ?_ (by have h_ := Kd.R_ne HO_176005.out BK154.out (by decide); intro e_; exact h_ (by rw [e_]; rfl)) _; (with_reducible repeat (first | refine blk_drewN ?_ _ | refine blk_drew ?_ | refine blk_alloc ?_ _)); exact BK154.out⟩
                  have n5_ : Aside0 ((w81.setCell ⟨go66, (x61_3 : Int).toNat, none⟩ (.int .i64 ji65)).heap[gb155]? = some (.cells #[.int .i64 0, .int .i64 0, .int .i64 0, .slice none 0 0, .slice none 0 0, .slice none 0 0, .slice none 0 0, .int .i64 0, .int .i64 0, .bool false] 25 (0, 0))) := ⟨by (with_reducible repeat (first | refine blk_drewN ?_ _ | refine blk_drew ?_ | refine blk_alloc ?_ _)); refine blk_far ?_ (by have h_ := Kd.R_ne HO_176005.out BK155.out (by decide); intro e_; exact h_ (by rw [e_]; rfl)) _; (with_reducible repeat (first | refine blk_drewN ?_ _ | refine blk_drew ?_ | refine blk_alloc ?_ _)); exact BK155.out⟩
                  have n6_ : Aside0 ((w81.setCell ⟨go66, (x61_3 : Int).toNat, none⟩ (.int .i64 ji65)).heap[gb175]? = some (.cells #[.int .i64 t157, .int .i64 t158, .int .i64 t159, .slice (some ⟨go63, 0, none⟩) x176003_3.length co78, .slice (some ad181) x176004_3.length co76, .slice (some ⟨go66, 0, none⟩) x176005_3.length co82, u176006, .int .i64 t172, .int .i64 t173, .bool t174] 25 (0, 0))) := ⟨by (with_reducible repeat (first | refine blk_drewN ?_ _ | refine blk_drew ?_ | refine blk_alloc ?_ _)); refine blk_far ?_ (by have h_ := Kd.R_ne HO_176005.out BK175.out (by decide); intro e_; exact h_ (by rw [e_]; rfl)) _; (with_reducible repeat (first | refine blk_drewN ?_ _ | refine blk_drew ?_ | refine blk_alloc ?_ _)); exact BK175.out⟩
                  have n7_ : Aside0 ((w81.setCell ⟨go66, (x61_3 : Int).toNat, none⟩ (.int .i64 ji65)).heap[gb177]? = some (.cells #[.string ((rd_T39 l0 a1_0).f0), .slice A176_1 ((rd_T39 l0 a1_0).f1).length c176_1, .slice (some ad179) ((rd_T39 l0 a1_0).f2).length c176_2] 39 (0, 0))) := ⟨by (with_reducible repeat (first | refine blk_drewN ?_ _ | refine blk_drew ?_ | refine blk_alloc ?_ _)); refine blk_far ?_ (by have h_ := Kd.R_ne HO_176005.out BK177.out (by decide); intro e_; exact h_ (by rw [e_]; rfl)) _; (with_reducible repeat (first | refine blk_drewN ?_ _ | refine blk_drew ?_ | refine blk_alloc ?_ _)); exact BK177.out⟩
                  have n8_ : Aside0 ((w81.setCell ⟨go66, (x61_3 : Int).toNat, none⟩ (.int .i64 ji65)).heap[gb180]? = some (.cells #[.int .i64 ((rd_T41 ((rd_T39 l0 a1_0).f2) x61_3).f0), .int .i64 ((rd_T41 ((rd_T39 l0 a1_0).f2) x61_3).f1)] 41 (0, 0))) := ⟨by (with_reducible repeat (first | refine blk_drewN ?_ _ | refine blk_drew ?_ | refine blk_alloc ?_ _)); refine blk_far ?_ (by have h_ := Kd.R_ne HO_176005.out BK180.out (by decide); intro e_; exact h_ (by rw [e_]; rfl)) _; (with_reducible repeat (first | refine blk_drewN ?_ _ | refine blk_drew ?_ | refine blk_alloc ?_ _)); exact BK180.out⟩
                  have n9_ : Aside0 (Below w.heap.size w (w81.setCell ⟨go66, (x61_3 : Int).toNat, none⟩ (.int .i64 ji65))) := ⟨by repeat (first | (with_reducible first | exact HB.out | apply below_alloc | apply pw_below_drewN | apply below_drew1 | refine below_set ?_ GB66.out | refine below_set ?_ GE154.out | refine below_set ?_ GE155.out | refine below_set ?_ GE175.out | refine below_set ?_ GE177.out | refine below_set ?_ GE180.out) | exact HB.out)⟩
                  (try clear HO_176003)
                  (try clear HO_176004)
                  (try clear HO_176005)
                  (try clear HO_176006)
                  (try clear BK154)
                  (try clear BK155)
                  (try clear BK175)
                  (try clear BK177)
                  (try clear BK180)
                  (try clear HB)
                  generalize (w81.setCell ⟨go66, (x61_3 : Int).toNat, none⟩ (.int .i64 ji65)) = w84 at n0_ n1_ n2_ n3_ n4_ n5_ n6_ n7_ n8_ n9_ ⊢
                  have HO_176003 := n0_
                  have HO_176004 := n1_
                  have HO_176005 := n2_
                  have HO_176006 := n3_
                  have BK154 := n4_
                  have BK155 := n5_
                  have BK175 := n6_
                  have BK177 := n7_
                  have BK180 := n8_
                  have HB := n9_
                  clear n0_ n1_ n2_ n3_ n4_ n5_ n6_ n7_ n8_ n9_
                  have hnb85 := NB175_154.out
                  have hnc85 := NB154_175.out
                  have hnb86 := NB175_155.out
                  have hnc86 := NB155_175.out
                  have hnb87 := NB175_177.out
                  have hnc87 := NB177_175.out
                  obtain ⟨hcz88_0, hcz88_1, hcz88_2, hcz88_3, hcz88_4, hcz88_5, hcz88_6, hcz88_7, hcz88_8, hcz88_9, hfz88_0, hfz88_1, hfz88_2, hfz88_3, hfz88_4, hfz88_5, hfz88_6, hfz88_7, hfz88_8, hfz88_9⟩ := cs10_ BK175.out
                  have p67 : 0 ≤ (x61_3 : Int) := of_decide_eq_true tW_
                  have q67 : (x61_3 : Int) < ((x176004_3.length : Int) : Int) := of_decide_eq_true tW_
                  obtain ⟨go67, co67, eo67, gb67, gl67, cl67, HG67⟩ := Kd.R_form HO_176004.out (by omega)
                  (first | cases eo67 | (injection eo67 with ea_ en_ ec_; (first | subst ea_ | (injection ea_ with ea_; subst ea_)); subst ec_; clear en_))
                  have GB67 := Aside0.mk gb67
                  have GG67 := Aside0.mk HG67
                  clear gb67 gl67 HG67
                  (first | simp only [add_plain] at hx181_0 | skip)
                  obtain ⟨hx67_0, hf67_0⟩ := Kd.R_celln 0 HO_176004.out (x61_3 : Int) p67 q67
                  replace p67 := eq_true p67
                  replace q67 := eq_true q67
                  obtain ⟨hy89_, hz89_⟩ := Kd.R_celln 0 HO_176004.out (x61_3 : Int) (of_decide_eq_true tW_) (of_decide_eq_true tW_)
                  have HP89 := Kd.R_putg HO_176004.out (x61_3 : Int) (Int.tmod (wrap64 ((rd x176004_3 x61_3) + (wrap64 (a3 * ((rd_T41 ((rd_T39 l0 a1_0).f2) x61_3).f1))))) 8)
                  try go_wp2_with (first | ((with_reducible refine gate_store (t := 3) (p := 107) rfl ?_); refine store_event (t := 3) (p := 107) (v := ?vo_w90) (w1 := (w84.setCell ⟨go67, (x61_3 : Int).toNat, none⟩ (.int .i64 (Int.tmod (wrap64 ((rd x176004_3 x61_3) + (wrap64 (a3 * ((rd_T41 ((rd_T39 l0 a1_0).f2) x61_3).f1))))) 8)))) ?hg ?ho ?hn ?hr ?_; (case ho => rfl); (case hg => rfl); (case hn => rfl); (case hr => first | (go_simp; done) | (go_simp; rfl)); intro w90 hw; have hg : w84.grownBy w90 (some go67) := (by rw [hw]; exact HP89.2); have hp_ : Kd.R (Kd.int .i64) 3 w90 w.heap.size (fun k_ => some k_ ≠ (.slice (some ⟨go63, 0, none⟩) x176003_3.length co78 : Value).ownBlock ∧ some k_ ≠ (.slice (some ⟨go66, 0, none⟩) x176005_3.length co82 : Value).ownBlock ∧ some k_ ≠ (u176006 : Value).ownBlock) (.slice (some ⟨go67, 0, none⟩) x176004_3.length co76) y186 := (by rw [hw, Ny186.out]; exact HP89.1); clear HP89; replace HO_176003 := Aside0.mk (Kd.R_after (v := (.slice (some ⟨go67, 0, none⟩) x176004_3.length co76)) (v1 := (.slice (some ⟨go67, 0, none⟩) x176004_3.length co76)) (ok := (fun k_ => some k_ ≠ (.slice (some ⟨go66, 0, none⟩) x176005_3.length co82 : Value).ownBlock ∧ some k_ ≠ (u176006 : Value).ownBlock)) (by (with_reducible repeat (first | apply Kd.R_alloc | apply Kd.R_drewN | apply Kd.R_drew)); exact Kd.R_mono HO_176003.out (fun _ hk => ⟨⟨hk.2.1, hk.2.2⟩, hk.1⟩)) hg (.inl rfl)); replace HO_176005 := Aside0.mk (Kd.R_after (v := (.slice (some ⟨go67, 0, none⟩) x176004_3.length co76)) (v1 := (.slice (some ⟨go67, 0, none⟩) x176004_3.length co76)) (ok := (fun k_ => some k_ ≠ (.slice (some ⟨go63, 0, none⟩) x176003_3.length co78 : Value).ownBlock ∧ some k_ ≠ (u176006 : Value).ownBlock)) (by (with_reducible repeat (first | apply Kd.R_alloc | apply Kd.R_drewN | apply Kd.R_drew)); exact Kd.R_mono HO_176005.out (fun _ hk => ⟨⟨hk.1, hk.2.2⟩, hk.2.1⟩)) hg (.inl rfl)); replace HO_176006 := Aside0.mk (Kd.R_after (v := (.slice (some ⟨go67, 0, none⟩) x176004_3.length co76)) (v1 := (.slice (some ⟨go67, 0, none⟩) x176004_3.length co76)) (ok := (fun k_ => some k_ ≠ (.slice (some ⟨go63, 0, none⟩) x176003_3.length co78 : Value).ownBlock ∧ some k_ ≠ (.slice (some ⟨go66, 0, none⟩) x176005_3.length co82 : Value).ownBlock)) (by (with_reducible repeat (first | apply Kd.R_alloc | apply Kd.R_drewN | apply Kd.R_drew)); exact Kd.R_mono HO_176006.out (fun _ hk => ⟨⟨hk.1, hk.2.2⟩, hk.2.1⟩)) hg (.inl rfl)); replace BK154 := Aside0.mk (blk_grown (g := gb154) (o := .cells #[.int .i64 a1_0, .int .i64 a1_1, .int .i64 a1_2, .slice A1_3 l1_3.length c1_3, .slice A1_4 l1_4.length c1_4, .slice A1_5 l1_5.length c1_5, .slice A1_6 l1_6.length c1_6, .int .i64 a1_7, .int .i64 a1_8, .bool a1_9] 25 (0, 0)) (dB_ BK154) hg (Kd.R_ne HO_176004.out BK154.out (by decide))); replace BK155 := Aside0.mk (blk_grown (g := gb155) (o := .cells #[.int .i64 0, .int .i64 0, .int .i64 0, .slice none 0 0, .slice none 0 0, .slice none 0 0, .slice none 0 0, .int .i64 0, .int .i64 0, .bool false] 25 (0, 0)) (dB_ BK155) hg (Kd.R_ne HO_176004.out BK155.out (by decide))); replace BK175 := Aside0.mk (blk_grown (g := gb175) (o := .cells #[.int .i64 t157, .int .i64 t158, .int .i64 t159, .slice (some ⟨go63, 0, none⟩) x176003_3.length co78, .slice (some ⟨go67, 0, none⟩) x176004_3.length co76, .slice (some ⟨go66, 0, none⟩) x176005_3.length co82, u176006, .int .i64 t172, .int .i64 t173, .bool t174] 25 (0, 0)) (dB_ BK175) hg (Kd.R_ne HO_176004.out BK175.out (by decide))); replace BK177 := Aside0.mk (blk_grown (g := gb177) (o := .cells #[.string ((rd_T39 l0 a1_0).f0), .slice A176_1 ((rd_T39 l0 a1_0).f1).length c176_1, .slice (some ad179) ((rd_T39 l0 a1_0).f2).length c176_2] 39 (0, 0)) (dB_ BK177) hg (Kd.R_ne HO_176004.out BK177.out (by decide))); replace BK180 := Aside0.mk (blk_grown (g := gb180) (o := .cells #[.int .i64 ((rd_T41 ((rd_T39 l0 a1_0).f2) x61_3).f0), .int .i64 ((rd_T41 ((rd_T39 l0 a1_0).f2) x61_3).f1)] 41 (0, 0)) (dB_ BK180) hg (Kd.R_ne HO_176004.out BK180.out (by decide))); replace HO_176004 := Aside0.mk (hp_); replace HB := Aside0.mk ((by rw [hw]; exact below_set (HB.out) GB67.out : Below w.heap.size w w90)); clear hg hw hp_))
                  go_roundg k3
                  case measure => have := HK1.out; have := HJ34.out; have := HK3.out; omega
                  case rel => exact ⟨(wrap64 (x61_3 + 1)), (y183), (y186), (y185), (x176006_3), (.slice (some ⟨go63, 0, none⟩) x176003_3.length co78), (.slice (some ⟨go67, 0, none⟩) x176004_3.length co76), (.slice (some ⟨go66, 0, none⟩) x176005_3.length co82), (u176006), tS_, H', ⟨by have := HK1.out; have := HJ34.out; have := HK3.out; omega⟩, ⟨by (with_reducible repeat (first | apply Kd.R_alloc | apply Kd.R_drewN | apply Kd.R_drew)); exact Kd.R_mono HO_176003.out (fun _ hk => ⟨hk.2, ⟨hk.1.1, hk.1.2⟩⟩)⟩, ⟨dR_ HO_176004⟩, ⟨by (with_reducible repeat (first | apply Kd.R_alloc | apply Kd.R_drewN | apply Kd.R_drew)); exact Kd.R_mono HO_176005.out (fun _ hk => ⟨hk.1.1, ⟨hk.2, hk.1.2⟩⟩)⟩, ⟨by (with_reducible repeat (first | apply Kd.R_alloc | apply Kd.R_drewN | apply Kd.R_drew)); exact Kd.R_mono HO_176006.out (fun _ hk => ⟨hk.1.1, ⟨hk.2, hk.1.2⟩⟩)⟩, ⟨dB_ BK154⟩, ⟨dB_ BK155⟩, ⟨dB_ BK175⟩, ⟨dB_ BK177⟩, ⟨by repeat (first | (with_reducible first | exact HB.out | apply below_alloc | apply pw_below_drewN | apply below_drew1 | refine below_set ?_ GE154.out | refine below_set ?_ GE155.out | refine below_set ?_ GE175.out | refine below_set ?_ GE177.out | refine below_set ?_ GE180.out) | exact HB.out)⟩⟩
                 ·rw [if_neg c64] at H
                  exact absurd H (by simp)
                ·rw [if_neg c61] at H
                 exact absurd H (by simp)
               ·rw [if_neg c60] at H
                exact absurd H (by simp)
              ·rw [if_neg c59] at H
               exact absurd H (by simp)
             ·rw [if_neg c58] at H
              exact absurd H (by simp)
            ·rw [if_neg c57] at H
             have c57b0 : decide (x61_3 < (((rd_T39 l0 a1_0).f2).length : Int)) = false := decide_eq_false c57
             clear c57
             obtain ⟨ji91, hji91⟩ : ∃ j_ : Int, (mn (wrap64 (t172 + a3)) 1000000) = j_ := ⟨_, rfl⟩
             replace H : (some (t157, t158, t159, x176003_3, x176004_3, x176005_3, x176006_3, ji91, t173, t174, a3, 0)) = some (r1, r2, r3, r4, r5, r6, r7, r8, r9, r10, r11, r12) := by first | (rw [hji91] at H; exact H) | (simp only [hji91] at H ⊢; exact H)
             have hji91_ : (if 1000000 < (wrap64 (t172 + a3)) then 1000000 else (wrap64 (t172 + a3))) = ji91 := hji91
             simp only [Option.some.injEq, Prod.mk.injEq] at H
             obtain ⟨rfl, rfl, rfl, rfl, rfl, rfl, rfl, rfl, rfl, rfl, rfl, rfl⟩ := H
             have hnb92 := NB175_154.out
             have hnc92 := NB154_175.out
             have hnb93 := NB175_155.out
             have hnc93 := NB155_175.out
             have hnb94 := NB175_177.out
             have hnc94 := NB177_175.out
             obtain ⟨hcz95_0, hcz95_1, hcz95_2, hcz95_3, hcz95_4, hcz95_5, hcz95_6, hcz95_7, hcz95_8, hcz95_9, hfz95_0, hfz95_1, hfz95_2, hfz95_3, hfz95_4, hfz95_5, hfz95_6, hfz95_7, hfz95_8, hfz95_9⟩ := cs10_ BK175.out
             have hnb96 := NB155_154.out
             have hnc96 := NB154_155.out
             have hnb97 := NB155_177.out
             have hnc97 := NB177_155.out
             obtain ⟨hcz98_0, hcz98_1, hcz98_2, hcz98_3, hcz98_4, hcz98_5, hcz98_6, hcz98_7, hcz98_8, hcz98_9, hfz98_0, hfz98_1, hfz98_2, hfz98_3, hfz98_4, hfz98_5, hfz98_6, hfz98_7, hfz98_8, hfz98_9⟩ := cs10_ BK155.out
             obtain ⟨Ao99, co99, eo99⟩ := Kd.R_slice HO_176003.out
             subst eo99
             obtain ⟨Ao100, co100, eo100⟩ := Kd.R_slice HO_176004.out
             subst eo100
             obtain ⟨Ao101, co101, eo101⟩ := Kd.R_slice HO_176005.out
             subst eo101
             obtain ⟨Ao102, co102, eo102⟩ := Kd.R_slice HO_176006.out
             subst eo102
             go_wp2
             refine bodyPost_ret (results_ctt rfl _ _ gb155 25 #[.int .i64 t157, .int .i64 t158, .int .i64 t159, .slice Ao99 x176003_3.length co99, .slice Ao100 x176004_3.length co100, .slice Ao101 x176005_3.length co101, .slice Ao102 x176006_3.length co102, .int .i64 ji91, .int .i64 t173, .bool t174] (0, 0) _ rfl (by (with_reducible repeat (first | refine blk_drewN ?_ _ | refine blk_drew ?_ | refine blk_alloc ?_ _)); refine blk_put (cs := #[.int .i64 t157, .int .i64 t158, .int .i64 t159, .slice Ao99 x176003_3.length co99, .slice Ao100 x176004_3.length co100, .slice Ao101 x176005_3.length co101, .slice Ao102 x176006_3.length co102, .int .i64 ji91, .int .i64 t173, .bool false]) ?_ 9 _ rfl; (with_reducible repeat (first | refine blk_drewN ?_ _ | refine blk_drew ?_ | refine blk_alloc ?_ _)); refine blk_put (cs := #[.int .i64 t157, .int .i64 t158, .int .i64 t159, .slice Ao99 x176003_3.length co99, .slice Ao100 x176004_3.length co100, .slice Ao101 x176005_3.length co101, .slice Ao102 x176006_3.length co102, .int .i64 ji91, .int .i64 0, .bool false]) ?_ 8 _ rfl; (with_reducible repeat (first | refine blk_drewN ?_ _ | refine blk_drew ?_ | refine blk_alloc ?_ _)); refine blk_put (cs := #[.int .i64 t157, .int .i64 t158, .int .i64 t159, .slice Ao99 x176003_3.length co99, .slice Ao100 x176004_3.length co100, .slice Ao101 x176005_3.length co101, .slice Ao102 x176006_3.length co102, .int .i64 0, .int .i64 0, .bool false]) ?_ 7 _ rfl; (with_reducible repeat (first | refine blk_drewN ?_ _ | refine blk_drew ?_ | refine blk_alloc ?_ _)); refine blk_put (cs := #[.int .i64 t157, .int .i64 t158, .int .i64 t159, .slice Ao99 x176003_3.length co99, .slice Ao100 x176004_3.length co100, .slice Ao101 x176005_3.length co101, .slice none 0 0, .int .i64 0, .int .i64 0, .bool false]) ?_ 6 _ rfl; (with_reducible repeat (first | refine blk_drewN ?_ _ | refine blk_drew ?_ | refine blk_alloc ?_ _)); refine blk_put (cs := #[.int .i64 t157, .int .i64 t158, .int .i64 t159, .slice Ao99 x176003_3.length co99, .slice Ao100 x176004_3.length co100, .slice none 0 0, .slice none 0 0, .int .i64 0, .int .i64 0, .bool false]) ?_ 5 _ rfl; (with_reducible repeat (first | refine blk_drewN ?_ _ | refine blk_drew ?_ | refine blk_alloc ?_ _)); refine blk_put (cs := #[.int .i64 t157, .int .i64 t158, .int .i64 t159, .slice Ao99 x176003_3.length co99, .slice none 0 0, .slice none 0 0, .slice none 0 0, .int .i64 0, .int .i64 0, .bool false]) ?_ 4 _ rfl; (with_reducible repeat (first | refine blk_drewN ?_ _ | refine blk_drew ?_ | refine blk_alloc ?_ _)); refine blk_put (cs := #[.int .i64 t157, .int .i64 t158, .int .i64 t159, .slice none 0 0, .slice none 0 0, .slice none 0 0, .slice none 0 0, .int .i64 0, .int .i64 0, .bool false]) ?_ 3 _ rfl; (with_reducible repeat (first | refine blk_drewN ?_ _ | refine blk_drew ?_ | refine blk_alloc ?_ _)); refine blk_put (cs := #[.int .i64 t157, .int .i64 t158, .int .i64 0, .slice none 0 0, .slice none 0 0, .slice none 0 0, .slice none 0 0, .int .i64 0, .int .i64 0, .bool false]) ?_ 2 _ rfl; (with_reducible repeat (first | refine blk_drewN ?_ _ | refine blk_drew ?_ | refine blk_alloc ?_ _)); refine blk_put (cs := #[.int .i64 t157, .int .i64 0, .int .i64 0, .slice none 0 0, .slice none 0 0, .slice none 0 0, .slice none 0 0, .int .i64 0, .int .i64 0, .bool false]) ?_ 1 _ rfl; (with_reducible repeat (first | refine blk_drewN ?_ _ | refine blk_drew ?_ | refine blk_alloc ?_ _)); refine blk_put (cs := #[.int .i64 0, .int .i64 0, .int .i64 0, .slice none 0 0, .slice none 0 0, .slice none 0 0, .slice none 0 0, .int .i64 0, .int .i64 0, .bool false]) ?_ 0 _ rfl; (with_reducible repeat (first | refine blk_drewN ?_ _ | refine blk_drew ?_ | refine blk_alloc ?_ _)); refine blk_far ?_ NB155_175.out _; (with_reducible repeat (first | refine blk_drewN ?_ _ | refine blk_drew ?_ | refine blk_alloc ?_ _)); exact BK155.out) Try.underlying25 rfl (by kernel_rfl)) rfl ?_
             exact ⟨_, _, _, _, by first | rfl | (simp [errW_none, errW_some] <;> rfl) | (simp only [← hji91]; first | rfl | (simp [errW_none, errW_some] <;> rfl)) | (simp [*, errW_none, errW_some] <;> rfl), by (with_reducible repeat (first | apply Kd.R_alloc | apply Kd.R_drewN | apply Kd.R_drew)); exact Kd.R_mono (far10_ (Kd.R_far (p := ⟨gb175, 7, none⟩) (Kd.R_types (Kd.R_types HO_176003.out BK175.out (by decide)) BK155.out (by decide)) (fun _ hk => hk.1.2) (.int .i64 ji91)) gb155 (fun _ hk => hk.2) (.int .i64 t157) (.int .i64 t158) (.int .i64 t159) (.slice Ao99 x176003_3.length co99) (.slice Ao100 x176004_3.length co100) (.slice Ao101 x176005_3.length co101) (.slice Ao102 x176006_3.length co102) (.int .i64 ji91) (.int .i64 t173) (.bool t174)) (fun _ hk => ⟨hk.1.1.1, ⟨hk.1.1.2.1, hk.1.1.2.2⟩⟩), by (with_reducible repeat (first | apply Kd.R_alloc | apply Kd.R_drewN | apply Kd.R_drew)); exact Kd.R_mono (far10_ (Kd.R_far (p := ⟨gb175, 7, none⟩) (Kd.R_types (Kd.R_types HO_176004.out BK175.out (by decide)) BK155.out (by decide)) (fun _ hk => hk.1.2) (.int .i64 ji91)) gb155 (fun _ hk => hk.2) (.int .i64 t157) (.int .i64 t158) (.int .i64 t159) (.slice Ao99 x176003_3.length co99) (.slice Ao100 x176004_3.length co100) (.slice Ao101 x176005_3.length co101) (.slice Ao102 x176006_3.length co102) (.int .i64 ji91) (.int .i64 t173) (.bool t174)) (fun _ hk => ⟨hk.1.1.1, ⟨hk.1.1.2.1, hk.1.1.2.2⟩⟩), by (with_reducible repeat (first | apply Kd.R_alloc | apply Kd.R_drewN | apply Kd.R_drew)); exact Kd.R_mono (far10_ (Kd.R_far (p := ⟨gb175, 7, none⟩) (Kd.R_types (Kd.R_types HO_176005.out BK175.out (by decide)) BK155.out (by decide)) (fun _ hk => hk.1.2) (.int .i64 ji91)) gb155 (fun _ hk => hk.2) (.int .i64 t157) (.int .i64 t158) (.int .i64 t159) (.slice Ao99 x176003_3.length co99) (.slice Ao100 x176004_3.length co100) (.slice Ao101 x176005_3.length co101) (.slice Ao102 x176006_3.length co102) (.int .i64 ji91) (.int .i64 t173) (.bool t174)) (fun _ hk => ⟨hk.1.1.1, ⟨hk.1.1.2.1, hk.1.1.2.2⟩⟩), by (with_reducible repeat (first | apply Kd.R_alloc | apply Kd.R_drewN | apply Kd.R_drew)); exact Kd.R_mono (far10_ (Kd.R_far (p := ⟨gb175, 7, none⟩) (Kd.R_types (Kd.R_types HO_176006.out BK175.out (by decide)) BK155.out (by decide)) (fun _ hk => hk.1.2) (.int .i64 ji91)) gb155 (fun _ hk => hk.2) (.int .i64 t157) (.int .i64 t158) (.int .i64 t159) (.slice Ao99 x176003_3.length co99) (.slice Ao100 x176004_3.length co100) (.slice Ao101 x176005_3.length co101) (.slice Ao102 x176006_3.length co102) (.int .i64 ji91) (.int .i64 t173) (.bool t174)) (fun _ hk => ⟨hk.1.1.1, ⟨hk.1.1.2.1, hk.1.1.2.2⟩⟩), dL4_ HB GE154 GE155 GE175 GE177⟩
   ·rw [if_neg c9] at H
    exact absurd H (by simp)
  ·rw [if_neg c8] at H
   exact absurd H (by simp)
 ·rw [if_neg c6] at H
  have c6b0 : (t156 == 0) = false := beq_eq_false_iff_ne.mpr c6
  have c6b1 : (t156 != 0) = true := bne_iff_ne.mpr c6
  simp only [Option.some.injEq, Prod.mk.injEq] at H
  obtain ⟨rfl, rfl, rfl, rfl, rfl, rfl, rfl, rfl, rfl, rfl, rfl, rfl⟩ := H
  go_enter Try.func20, Try.ntmps20
  go_wp2_with (first | ((with_reducible refine gate_dst (N := 5) rfl ?_); refine box_event ?hg (N := 5) ?hd (cs := #[.int .i64 a1_0, .int .i64 a1_1, .int .i64 a1_2, .slice A1_3 l1_3.length c1_3, .slice A1_4 l1_4.length c1_4, .slice A1_5 l1_5.length c1_5, .slice A1_6 l1_6.length c1_6, .int .i64 a1_7, .int .i64 a1_8, .bool a1_9]) (t := 25) ?hr ?_; (case hd => rfl); (case hg => rfl); (case hr => first | (go_simp; done) | (go_simp; rfl)); intro gb154 hg w103 hbox hb; have BK154 := Aside0.mk (hbox); have GW154 := Aside0.mk ((dS_ hg (dL_ HB) : w.heap.size ≤ gb154)); have GE154 := Aside0.mk ((dS_ hg (dL_ HB) : w.heap.size ≤ gb154)); replace HB := Aside0.mk (below_step (dL_ HB) hb); clear hb hbox hg) | ((with_reducible refine gate_dst (N := 8) rfl ?_); refine box_event ?hg (N := 8) ?hd (cs := #[.int .i64 0, .int .i64 0, .int .i64 0, .slice none 0 0, .slice none 0 0, .slice none 0 0, .slice none 0 0, .int .i64 0, .int .i64 0, .bool false]) (t := 25) ?hr ?_; (case hd => rfl); (case hg => rfl); (case hr => first | (go_simp; done) | (go_simp; rfl)); intro gb155 hg w104 hbox hb; have BK155 := Aside0.mk (hbox); have GW155 := Aside0.mk ((dS_ hg (dL1_ HB GE154) : w.heap.size ≤ gb155)); have GE155 := Aside0.mk ((dS_ hg (dL1_ HB GE154) : w.heap.size ≤ gb155)); replace HB := Aside0.mk (below_step (dL1_ HB GE154) hb); have NB154_155 := Aside0.mk ((by rw [hg]; exact Nat.ne_of_lt (blk_lt (dB_ BK154)) : gb154 ≠ gb155)); have NB155_154 := Aside0.mk ((by rw [hg]; exact Nat.ne_of_gt (blk_lt (dB_ BK154)) : gb155 ≠ gb154)); replace BK154 := Aside0.mk (blk_below (g := gb154) (o := .cells #[.int .i64 a1_0, .int .i64 a1_1, .int .i64 a1_2, .slice A1_3 l1_3.length c1_3, .slice A1_4 l1_4.length c1_4, .slice A1_5 l1_5.length c1_5, .slice A1_6 l1_6.length c1_6, .int .i64 a1_7, .int .i64 a1_8, .bool a1_9] 25 (0, 0)) (dB_ BK154) hb); clear hb hbox hg; have hnb105 := NB154_155.out; have hnc105 := NB155_154.out; obtain ⟨hcz106_0, hcz106_1, hcz106_2, hcz106_3, hcz106_4, hcz106_5, hcz106_6, hcz106_7, hcz106_8, hcz106_9, hfz106_0, hfz106_1, hfz106_2, hfz106_3, hfz106_4, hfz106_5, hfz106_6, hfz106_7, hfz106_8, hfz106_9⟩ := cs10_ BK154.out) | ((with_reducible refine gate_callee (f := 38) rfl ?_); refine goesL_ (some 24) rfl rfl Try.func38 (by kernel_rfl) rfl #[.slice A0 l0.length c0, .agg #[.int .i64 a1_0, .int .i64 a1_1, .int .i64 a1_2, .slice A1_3 l1_3.length c1_3, .slice A1_4 l1_4.length c1_4, .slice A1_5 l1_5.length c1_5, .slice A1_6 l1_6.length c1_6, .int .i64 a1_7, .int .i64 a1_8, .bool a1_9], .int .i64 a2, .int .i64 a3] rfl tA_ ?_; (with_reducible refine (plant_argued.calls k _ _ l0 a1_0 a1_1 a1_2 _ _ l1_3 _ _ l1_4 _ _ l1_5 _ _ l1_6 a1_7 a1_8 a1_9 a2 a3 t156 _ ?side1 ?side2 ?side3 ?side4 ?side5 ?side6 ?side7 ?side8 ?side9 ?side10 A5.out).mono ?_); (case side1 => exact dC_ HR0 HB); (case side2 => exact HC0.out); (case side3 => exact dC_ HR1_3 HB); (case side4 => exact HC1_3.out); (case side5 => exact dC_ HR1_4 HB); (case side6 => exact HC1_4.out); (case side7 => exact dC_ HR1_5 HB); (case side8 => exact HC1_5.out); (case side9 => exact dC_ HR1_6 HB); (case side10 => exact HC1_6.out); rintro e w107 ⟨rfl, hb⟩; refine ⟨_, rfl, ?_⟩; replace BK154 := Aside0.mk (blk_below (g := gb154) (o := .cells #[.int .i64 a1_0, .int .i64 a1_1, .int .i64 a1_2, .slice A1_3 l1_3.length c1_3, .slice A1_4 l1_4.length c1_4, .slice A1_5 l1_5.length c1_5, .slice A1_6 l1_6.length c1_6, .int .i64 a1_7, .int .i64 a1_8, .bool a1_9] 25 (0, 0)) (dB_ BK154) hb); replace BK155 := Aside0.mk (blk_below (g := gb155) (o := .cells #[.int .i64 0, .int .i64 0, .int .i64 0, .slice none 0 0, .slice none 0 0, .slice none 0 0, .slice none 0 0, .int .i64 0, .int .i64 0, .bool false] 25 (0, 0)) (dB_ BK155) hb); replace HB := Aside0.mk (below_step (dL2_ HB GE154 GE155) hb); obtain ⟨hcz108_0, hcz108_1, hcz108_2, hcz108_3, hcz108_4, hcz108_5, hcz108_6, hcz108_7, hcz108_8, hcz108_9, hfz108_0, hfz108_1, hfz108_2, hfz108_3, hfz108_4, hfz108_5, hfz108_6, hfz108_7, hfz108_8, hfz108_9⟩ := cs10_ BK155.out))
  refine bodyPost_ret (results_ctt rfl _ _ gb155 25 #[.int .i64 0, .int .i64 0, .int .i64 0, .slice none 0 0, .slice none 0 0, .slice none 0 0, .slice none 0 0, .int .i64 0, .int .i64 0, .bool false] (0, 0) _ rfl (dP10_ BK155) Try.underlying25 rfl (by kernel_rfl)) rfl ?_
  exact ⟨_, _, _, _, tE_, by first | exact Kd.R_nil _ _ _ _ _ | exact Kd.N_nil _ _ _ _ _ | exact Kd.V_nil _ _ _ _ _ | exact Kd.Q_nil _ _ _ _ _ | exact Kd.S_nil _ _ _ _ _, by first | exact Kd.R_nil _ _ _ _ _ | exact Kd.N_nil _ _ _ _ _ | exact Kd.V_nil _ _ _ _ _ | exact Kd.Q_nil _ _ _ _ _ | exact Kd.S_nil _ _ _ _ _, by first | exact Kd.R_nil _ _ _ _ _ | exact Kd.N_nil _ _ _ _ _ | exact Kd.V_nil _ _ _ _ _ | exact Kd.Q_nil _ _ _ _ _ | exact Kd.S_nil _ _ _ _ _, by first | exact Kd.R_nil _ _ _ _ _ | exact Kd.N_nil _ _ _ _ _ | exact Kd.V_nil _ _ _ _ _ | exact Kd.Q_nil _ _ _ _ _ | exact Kd.S_nil _ _ _ _ _, dL2_ HB GE154 GE155⟩

end Go.Proofs.Ytnkgelnkoljgdaa.Q
