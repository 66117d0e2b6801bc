-- PRINTED by print.py (a twelfth state) out of the translation. Not trusted: Lean checks it.
import Derived.Test.YtchflcnegpnkkaaPrs
import Derived.Test.YtchflcnegpnkkaaQ0
import Derived.Test.YtchflcnegpnkkaaQ12
import Derived.Test.YtchflcnegpnkkaaQ14
import Derived.Test.YtchflcnegpnkkaaQ16
namespace Go.Proofs.Ytchflcnegpnkkaa.Q
open Go.RowKit Go.Proofs.YtchflcnegpnkkaaPrs Go.Proofs.YtchflcnegpnkkaaOwn Go.Proofs.YtchflcnegpnkkaaW.PrintWords Go.Proofs.YtchflcnegpnkkaaW.PrintLast Go.Proofs.YtchflcnegpnkkaaW.PrintMore
open List renaming setIfInBounds_toArray → sI_, set_cons_zero → s0_, set_cons_succ → sS_
attribute [local go_sem] max2_int min2_int max_two min_two max_three min_three max_four min_four   -- for this text's walks alone
set_option linter.unusedVariables false
set_option linter.unusedSimpArgs false

/-! ### hinterlandref02_Level: function 24 -/
mutual
def hinterlandref02_Level.j0 : Nat → List Int → Int → List Int → Bool → Int → Int → List Int → Option (Int × Int × List Int × Int × Int)
  | 0, _, _, _, _, _, _, _ => none
  | k + 1, x1, x2, x3, x40, x319000, x319001, x319002 => if x40 = true then (some (0, 0, ([] : List Int), 0, 1)) else (hinterlandref02_Level.l0 k x1 x2 x3 x1 (x1.length : Int) 0 x319000 x319001 x319002)
def hinterlandref02_Level.l0 : Nat → List Int → Int → List Int → List Int → Int → Int → Int → Int → List Int → Option (Int × Int × List Int × Int × Int)
  | 0, _, _, _, _, _, _, _, _, _ => none
  | k + 1, x1, x2, x3, x42, x43, x44, x319000, x319001, x319002 => if x44 < x43 then (if 0 ≤ x44 then (if x44 < (x42.length : Int) then ((hinterlandref02_Is.f x319000 x319001 x319002 (rd x42 x44)).bind fun t322 => (if t322 = true then (hinterlandref02_Level.l0 k x1 x2 x3 x42 x43 (wrap64 (x44 + 1)) x319000 x319001 x319002) else (some (0, 0, ([] : List Int), 0, 2)))) else (none)) else (none)) else (if ([] : List Int).length + x319002.length < 17592186044416 then (hinterlandref02_Level.l1 k x2 x3 0 x1 (x1.length : Int) 0 x319000 x319001 x319002 x319000 x319001 (([] : List Int) ++ x319002)) else (none))
def hinterlandref02_Level.l1 : Nat → Int → List Int → Int → List Int → Int → Int → Int → Int → List Int → Int → Int → List Int → Option (Int × Int × List Int × Int × Int)
  | 0, _, _, _, _, _, _, _, _, _, _, _, _ => none
  | k + 1, x2, x3, x15, x62, x63, x64, x319000, x319001, x319002, x327000, x327001, x327002 => if x64 < x63 then (if 0 ≤ x64 then (if x64 < (x62.length : Int) then ((hinterlandref02_Places.f x319000 x319001 x319002 (rd x62 x64)).bind fun bt328 => (hinterlandref02_Level.l2 k x2 x3 x15 x62 x63 x64 0 x319000 x319001 x319002 x327000 x327001 x327002 bt328.1 bt328.2.1 bt328.2.2.1 bt328.2.2.2)) else (none)) else (none)) else (some (x327000, x327001, x327002, x15, 0))
def hinterlandref02_Level.l2 : Nat → Int → List Int → Int → List Int → Int → Int → Int → Int → Int → List Int → Int → Int → List Int → Int → Int → Int → Int → Option (Int × Int × List Int × Int × Int)
  | 0, _, _, _, _, _, _, _, _, _, _, _, _, _, _, _, _, _ => none
  | k + 1, x2, x3, x15, x62, x63, x64, x71, x319000, x319001, x319002, x327000, x327001, x327002, x100070000, x100070001, x100070002, x100070003 => if x71 < 4 then (if 0 ≤ x71 then (hinterlandref02_Level.l3 k x2 x3 x15 (rd [x100070000, x100070001, x100070002, x100070003] x71) x62 x63 x64 x71 x319000 x319001 x319002 x327000 x327001 x327002 x100070000 x100070001 x100070002 x100070003) else (none)) else (hinterlandref02_Level.l1 k x2 x3 x15 x62 x63 (wrap64 (x64 + 1)) x319000 x319001 x319002 x327000 x327001 x327002)
def hinterlandref02_Level.l3 : Nat → Int → List Int → Int → Int → List Int → Int → Int → Int → Int → Int → List Int → Int → Int → List Int → Int → Int → Int → Int → Option (Int × Int × List Int × Int × Int)
  | 0, _, _, _, _, _, _, _, _, _, _, _, _, _, _, _, _, _, _ => none
  | k + 1, x2, x3, x15, x19, x62, x63, x64, x71, x319000, x319001, x319002, x327000, x327001, x327002, x100070000, x100070001, x100070002, x100070003 => if 0 ≤ x19 then (if x19 < (x327002.length : Int) then (if (rd x327002 x19) = x2 then (hinterlandref02_Level.l2 k x2 x3 x15 x62 x63 x64 (wrap64 (x71 + 1)) x319000 x319001 x319002 x327000 x327001 x327002 x100070000 x100070001 x100070002 x100070003) else (if (wrap64 (x319000 + 1)) = 0 then (none) else ((hinterlandref02_Shift.f k x327000 x327001 x327002 (Int.tmod x19 (wrap64 (x319000 + 1))) (wrap64 (Int.tdiv x19 (wrap64 (x319000 + 1)))) (decide ((rd x327002 x19) < x2)) x3).bind fun bt334 => (if bt334.2.2.2.2.2 = 0 then (hinterlandref02_Level.l3 k x2 x3 (wrap64 (x15 + bt334.2.2.2.2.1)) x19 x62 x63 x64 x71 x319000 x319001 x319002 bt334.1 bt334.2.1 bt334.2.2.1 x100070000 x100070001 x100070002 x100070003) else (some (0, 0, ([] : List Int), 0, bt334.2.2.2.2.2)))))) else (none)) else (none)
end
def hinterlandref02_Level.f (k : Nat) (a0_0 : Int) (a0_1 : Int) (l0_2 : List Int) (l1 : List Int) (a2 : Int) (l3 : List Int) : Option (Int × Int × List Int × Int × Int) := (hinterlandref02_Validate.f k a0_0 a0_1 l0_2).bind fun t320 => (if t320 = 0 then (if a2 < 0 then (hinterlandref02_Level.j0 k l1 a2 l3 true a0_0 a0_1 l0_2) else (if a2 > 15 then (hinterlandref02_Level.j0 k l1 a2 l3 true a0_0 a0_1 l0_2) else (hinterlandref02_Level.j0 k l1 a2 l3 (decide ((l1.length : Int) > 1000)) a0_0 a0_1 l0_2))) else (some (0, 0, ([] : List Int), 0, t320)))
theorem hinterlandref02_Level.mono_l : ∀ k, (∀ y0 y1 y2 y3 y4 y5 y6, LeO (hinterlandref02_Level.j0 k y0 y1 y2 y3 y4 y5 y6) (hinterlandref02_Level.j0 (k + 1) y0 y1 y2 y3 y4 y5 y6)) ∧ (∀ y0 y1 y2 y3 y4 y5 y6 y7 y8, LeO (hinterlandref02_Level.l0 k y0 y1 y2 y3 y4 y5 y6 y7 y8) (hinterlandref02_Level.l0 (k + 1) y0 y1 y2 y3 y4 y5 y6 y7 y8)) ∧ (∀ y0 y1 y2 y3 y4 y5 y6 y7 y8 y9 y10 y11, LeO (hinterlandref02_Level.l1 k y0 y1 y2 y3 y4 y5 y6 y7 y8 y9 y10 y11) (hinterlandref02_Level.l1 (k + 1) y0 y1 y2 y3 y4 y5 y6 y7 y8 y9 y10 y11)) ∧ (∀ y0 y1 y2 y3 y4 y5 y6 y7 y8 y9 y10 y11 y12 y13 y14 y15 y16, LeO (hinterlandref02_Level.l2 k y0 y1 y2 y3 y4 y5 y6 y7 y8 y9 y10 y11 y12 y13 y14 y15 y16) (hinterlandref02_Level.l2 (k + 1) y0 y1 y2 y3 y4 y5 y6 y7 y8 y9 y10 y11 y12 y13 y14 y15 y16)) ∧ (∀ y0 y1 y2 y3 y4 y5 y6 y7 y8 y9 y10 y11 y12 y13 y14 y15 y16 y17, LeO (hinterlandref02_Level.l3 k y0 y1 y2 y3 y4 y5 y6 y7 y8 y9 y10 y11 y12 y13 y14 y15 y16 y17) (hinterlandref02_Level.l3 (k + 1) y0 y1 y2 y3 y4 y5 y6 y7 y8 y9 y10 y11 y12 y13 y14 y15 y16 y17))
  | 0 => ⟨fun _ _ _ _ _ _ _ r h => by simp [hinterlandref02_Level.j0] at h, fun _ _ _ _ _ _ _ _ _ r h => by simp [hinterlandref02_Level.l0] at h, fun _ _ _ _ _ _ _ _ _ _ _ _ r h => by simp [hinterlandref02_Level.l1] at h, fun _ _ _ _ _ _ _ _ _ _ _ _ _ _ _ _ _ r h => by simp [hinterlandref02_Level.l2] at h, fun _ _ _ _ _ _ _ _ _ _ _ _ _ _ _ _ _ _ r h => by simp [hinterlandref02_Level.l3] at h⟩
  | k + 1 => by
    obtain ⟨ih0, ih1, ih2, ih3, ih4⟩ := hinterlandref02_Level.mono_l k
    refine ⟨?_, ?_, ?_, ?_, ?_⟩
    · intro y0 y1 y2 y3 y4 y5 y6
      unfold hinterlandref02_Level.j0
      repeat' first
      | (with_reducible first | exact ih0 _ _ _ _ _ _ _ | exact ih1 _ _ _ _ _ _ _ _ _ | exact ih2 _ _ _ _ _ _ _ _ _ _ _ _ | exact ih3 _ _ _ _ _ _ _ _ _ _ _ _ _ _ _ _ _ | exact ih4 _ _ _ _ _ _ _ _ _ _ _ _ _ _ _ _ _ _ | exact hinterlandref02_Shift.mono _ _ _ _ _ _ _ _ | exact hinterlandref02_Validate.mono _ _ _ _ | exact LeO.refl _ | exact LeO.none _ | refine LeO.ite ?_ ?_ | refine LeO.bind ?_ (fun _ => ?_))
      | exact ih0 _ _ _ _ _ _ _
      | exact ih1 _ _ _ _ _ _ _ _ _
      | exact ih2 _ _ _ _ _ _ _ _ _ _ _ _
      | exact ih3 _ _ _ _ _ _ _ _ _ _ _ _ _ _ _ _ _
      | exact ih4 _ _ _ _ _ _ _ _ _ _ _ _ _ _ _ _ _ _
      | exact hinterlandref02_Shift.mono _ _ _ _ _ _ _ _
      | exact hinterlandref02_Validate.mono _ _ _ _
      | exact LeO.none _
      | refine LeO.ite ?_ ?_
      | refine LeO.bind ?_ (fun _ => ?_)
    · intro y0 y1 y2 y3 y4 y5 y6 y7 y8
      unfold hinterlandref02_Level.l0
      repeat' first
      | (with_reducible first | exact ih0 _ _ _ _ _ _ _ | exact ih1 _ _ _ _ _ _ _ _ _ | exact ih2 _ _ _ _ _ _ _ _ _ _ _ _ | exact ih3 _ _ _ _ _ _ _ _ _ _ _ _ _ _ _ _ _ | exact ih4 _ _ _ _ _ _ _ _ _ _ _ _ _ _ _ _ _ _ | exact hinterlandref02_Shift.mono _ _ _ _ _ _ _ _ | exact hinterlandref02_Validate.mono _ _ _ _ | exact LeO.refl _ | exact LeO.none _ | refine LeO.ite ?_ ?_ | refine LeO.bind ?_ (fun _ => ?_))
      | exact ih0 _ _ _ _ _ _ _
      | exact ih1 _ _ _ _ _ _ _ _ _
      | exact ih2 _ _ _ _ _ _ _ _ _ _ _ _
      | exact ih3 _ _ _ _ _ _ _ _ _ _ _ _ _ _ _ _ _
      | exact ih4 _ _ _ _ _ _ _ _ _ _ _ _ _ _ _ _ _ _
      | exact hinterlandref02_Shift.mono _ _ _ _ _ _ _ _
      | exact hinterlandref02_Validate.mono _ _ _ _
      | exact LeO.none _
      | refine LeO.ite ?_ ?_
      | refine LeO.bind ?_ (fun _ => ?_)
    · intro y0 y1 y2 y3 y4 y5 y6 y7 y8 y9 y10 y11
      unfold hinterlandref02_Level.l1
      repeat' first
      | (with_reducible first | exact ih0 _ _ _ _ _ _ _ | exact ih1 _ _ _ _ _ _ _ _ _ | exact ih2 _ _ _ _ _ _ _ _ _ _ _ _ | exact ih3 _ _ _ _ _ _ _ _ _ _ _ _ _ _ _ _ _ | exact ih4 _ _ _ _ _ _ _ _ _ _ _ _ _ _ _ _ _ _ | exact hinterlandref02_Shift.mono _ _ _ _ _ _ _ _ | exact hinterlandref02_Validate.mono _ _ _ _ | exact LeO.refl _ | exact LeO.none _ | refine LeO.ite ?_ ?_ | refine LeO.bind ?_ (fun _ => ?_))
      | exact ih0 _ _ _ _ _ _ _
      | exact ih1 _ _ _ _ _ _ _ _ _
      | exact ih2 _ _ _ _ _ _ _ _ _ _ _ _
      | exact ih3 _ _ _ _ _ _ _ _ _ _ _ _ _ _ _ _ _
      | exact ih4 _ _ _ _ _ _ _ _ _ _ _ _ _ _ _ _ _ _
      | exact hinterlandref02_Shift.mono _ _ _ _ _ _ _ _
      | exact hinterlandref02_Validate.mono _ _ _ _
      | exact LeO.none _
      | refine LeO.ite ?_ ?_
      | refine LeO.bind ?_ (fun _ => ?_)
    · intro y0 y1 y2 y3 y4 y5 y6 y7 y8 y9 y10 y11 y12 y13 y14 y15 y16
      unfold hinterlandref02_Level.l2
      repeat' first
      | (with_reducible first | exact ih0 _ _ _ _ _ _ _ | exact ih1 _ _ _ _ _ _ _ _ _ | exact ih2 _ _ _ _ _ _ _ _ _ _ _ _ | exact ih3 _ _ _ _ _ _ _ _ _ _ _ _ _ _ _ _ _ | exact ih4 _ _ _ _ _ _ _ _ _ _ _ _ _ _ _ _ _ _ | exact hinterlandref02_Shift.mono _ _ _ _ _ _ _ _ | exact hinterlandref02_Validate.mono _ _ _ _ | exact LeO.refl _ | exact LeO.none _ | refine LeO.ite ?_ ?_ | refine LeO.bind ?_ (fun _ => ?_))
      | exact ih0 _ _ _ _ _ _ _
      | exact ih1 _ _ _ _ _ _ _ _ _
      | exact ih2 _ _ _ _ _ _ _ _ _ _ _ _
      | exact ih3 _ _ _ _ _ _ _ _ _ _ _ _ _ _ _ _ _
      | exact ih4 _ _ _ _ _ _ _ _ _ _ _ _ _ _ _ _ _ _
      | exact hinterlandref02_Shift.mono _ _ _ _ _ _ _ _
      | exact hinterlandref02_Validate.mono _ _ _ _
      | exact LeO.none _
      | refine LeO.ite ?_ ?_
      | refine LeO.bind ?_ (fun _ => ?_)
    · intro y0 y1 y2 y3 y4 y5 y6 y7 y8 y9 y10 y11 y12 y13 y14 y15 y16 y17
      unfold hinterlandref02_Level.l3
      repeat' first
      | (with_reducible first | exact ih0 _ _ _ _ _ _ _ | exact ih1 _ _ _ _ _ _ _ _ _ | exact ih2 _ _ _ _ _ _ _ _ _ _ _ _ | exact ih3 _ _ _ _ _ _ _ _ _ _ _ _ _ _ _ _ _ | exact ih4 _ _ _ _ _ _ _ _ _ _ _ _ _ _ _ _ _ _ | exact hinterlandref02_Shift.mono _ _ _ _ _ _ _ _ | exact hinterlandref02_Validate.mono _ _ _ _ | exact LeO.refl _ | exact LeO.none _ | refine LeO.ite ?_ ?_ | refine LeO.bind ?_ (fun _ => ?_))
      | exact ih0 _ _ _ _ _ _ _
      | exact ih1 _ _ _ _ _ _ _ _ _
      | exact ih2 _ _ _ _ _ _ _ _ _ _ _ _
      | exact ih3 _ _ _ _ _ _ _ _ _ _ _ _ _ _ _ _ _
      | exact ih4 _ _ _ _ _ _ _ _ _ _ _ _ _ _ _ _ _ _
      | exact hinterlandref02_Shift.mono _ _ _ _ _ _ _ _
      | exact hinterlandref02_Validate.mono _ _ _ _
      | exact LeO.none _
      | refine LeO.ite ?_ ?_
      | refine LeO.bind ?_ (fun _ => ?_)
theorem hinterlandref02_Level.mono : ∀ a0 a1 a2 a3 a4 a5 k, LeO (hinterlandref02_Level.f k a0 a1 a2 a3 a4 a5) (hinterlandref02_Level.f (k + 1) a0 a1 a2 a3 a4 a5) := by
  intro a0 a1 a2 a3 a4 a5 k
  obtain ⟨ih0, ih1, ih2, ih3, ih4⟩ := hinterlandref02_Level.mono_l k
  unfold hinterlandref02_Level.f
  repeat' first
      | (with_reducible first | exact ih0 _ _ _ _ _ _ _ | exact ih1 _ _ _ _ _ _ _ _ _ | exact ih2 _ _ _ _ _ _ _ _ _ _ _ _ | exact ih3 _ _ _ _ _ _ _ _ _ _ _ _ _ _ _ _ _ | exact ih4 _ _ _ _ _ _ _ _ _ _ _ _ _ _ _ _ _ _ | exact hinterlandref02_Shift.mono _ _ _ _ _ _ _ _ | exact hinterlandref02_Validate.mono _ _ _ _ | exact LeO.refl _ | exact LeO.none _ | refine LeO.ite ?_ ?_ | refine LeO.bind ?_ (fun _ => ?_))
      | exact ih0 _ _ _ _ _ _ _
      | exact ih1 _ _ _ _ _ _ _ _ _
      | exact ih2 _ _ _ _ _ _ _ _ _ _ _ _
      | exact ih3 _ _ _ _ _ _ _ _ _ _ _ _ _ _ _ _ _
      | exact ih4 _ _ _ _ _ _ _ _ _ _ _ _ _ _ _ _ _ _
      | exact hinterlandref02_Shift.mono _ _ _ _ _ _ _ _
      | exact hinterlandref02_Validate.mono _ _ _ _
      | exact LeO.none _
      | refine LeO.ite ?_ ?_
      | refine LeO.bind ?_ (fun _ => ?_)
def hinterlandref02_Level.T12 : Bool × List (List Nat × List Nat) := (true, [([], []), ([0], [0]), ([], []), ([2], [2]), ([], []), ([4], [4]), ([5], [5]), ([1, 3, 6], [1, 3, 6]), ([], []), ([8, 7, 6, 0, 1, 2, 3, 4, 5, 6, 7, 8], [7, 8])])
def hinterlandref02_Level.B12 : List Nat := [0, 1, 0, 4, 0, 16, 48, 127, 0, 511]
theorem hinterlandref02_Level.tab12 : rtab .any (opsOf Try.f24 12) = hinterlandref02_Level.T12 := by kernel_rfl
theorem hinterlandref02_Level.bits12 : waitsOk hinterlandref02_Level.T12.2 hinterlandref02_Level.B12 = true := by kernel_rfl
def hinterlandref02_Level.T21 : Bool × List (List Nat × List Nat) := (true, [([], []), ([], []), ([], []), ([2], [2]), ([3], [3]), ([1, 4], [1, 4]), ([], []), ([], []), ([7], [7]), ([8], [8]), ([6, 9], [6, 9]), ([], []), ([11], [11]), ([], []), ([12, 13], [12, 13]), ([14], [14]), ([], []), ([15, 16], [15, 16]), ([], []), ([0, 5, 10, 17, 18], [0, 5, 10, 17, 18]), ([19], [19]), ([20], [20]), ([20], [20]), ([20], [20]), ([20], [20]), ([], []), ([25, 21, 19, 0, 1, 2, 3, 4, 5, 6, 7, 8, 9, 10, 11, 12, 13, 14, 15, 16, 17, 18, 19, 20, 21, 25], [21, 25]), ([22, 26, 0, 1, 2, 3, 4, 5, 6, 7, 8, 9, 10, 11, 12, 13, 14, 15, 16, 17, 18, 19, 20, 21, 22, 25, 26], [22]), ([23, 27, 0, 1, 2, 3, 4, 5, 6, 7, 8, 9, 10, 11, 12, 13, 14, 15, 16, 17, 18, 19, 20, 21, 22, 23, 25, 26, 27], [23]), ([24, 28, 0, 1, 2, 3, 4, 5, 6, 7, 8, 9, 10, 11, 12, 13, 14, 15, 16, 17, 18, 19, 20, 21, 22, 23, 24, 25, 26, 27, 28], [24])])
def hinterlandref02_Level.B21 : List Nat := [0, 0, 0, 4, 12, 30, 0, 0, 128, 384, 960, 0, 2048, 0, 14336, 30720, 0, 129024, 0, 524287, 1048575, 2097151, 2097151, 2097151, 2097151, 0, 37748735, 109051903, 251658239, 536870911]
theorem hinterlandref02_Level.tab21 : rtab .any (opsOf Try.f24 21) = hinterlandref02_Level.T21 := by kernel_rfl
theorem hinterlandref02_Level.bits21 : waitsOk hinterlandref02_Level.T21.2 hinterlandref02_Level.B21 = true := by kernel_rfl
set_option maxHeartbeats 8000000 in
set_option maxRecDepth 100000 in
theorem hinterlandref02_Level.calls (k : Nat) (a0_0 : Int) (a0_1 : Int) (A0_2 : Option Addr) (c0_2 : Nat) (l0_2 : List Int) (A1 : Option Addr) (c1 : Nat) (l1 : List Int) (a2 : Int) (A3 : Option Addr) (c3 : Nat) (l3 : List Int) (r1 : Int) (r2 : Int) (r3 : List Int) (r4 : Int) (r5 : Int) (w : World) (hr0_2 : Kd.C (Kd.int .i64) w A0_2 l0_2.length l0_2) (hc0_2 : l0_2.length ≤ c0_2) (hr1 : Kd.C (Kd.int .i64) w A1 l1.length l1) (hc1 : l1.length ≤ c1) (hr3 : Kd.C (Kd.int .i64) w A3 l3.length l3) (hc3 : l3.length ≤ c3) (h : hinterlandref02_Level.f k a0_0 a0_1 l0_2 l1 a2 l3 = some (r1, r2, r3, r4, r5)) :
    Calls Try.prog 24 #[.agg #[.int .i64 a0_0, .int .i64 a0_1, .slice A0_2 l0_2.length c0_2], .slice A1 l1.length c1, .int .i64 a2, .slice A3 l3.length c3] w fun e w' => ∃ v2_ : Value, e = .returned (.tuple #[.agg #[.int .i64 r1, .int .i64 r2, v2_], .int .i64 r4, .int .i64 r5]) ∧ Kd.R (Kd.int .i64) 3 w' w.heap.size (fun _ => True) v2_ r3 ∧ Below w.heap.size w w' := by
 have hu24 := Try.underlying24
 have HR0_2 := Aside0.mk hr0_2
 have HC0_2 := Aside0.mk hc0_2
 clear hr0_2 hc0_2
 have HR1 := Aside0.mk hr1
 have HC1 := Aside0.mk hc1
 clear hr1 hc1
 have HR3 := Aside0.mk hr3
 have HC3 := Aside0.mk hc3
 clear hr3 hc3
 have HB := Aside0.mk (Below.refl w.heap.size w)
 have H : ((hinterlandref02_Validate.f k a0_0 a0_1 l0_2).bind fun t320 => (if t320 = 0 then (if a2 < 0 then (hinterlandref02_Level.j0 k l1 a2 l3 true a0_0 a0_1 l0_2) else (if a2 > 15 then (hinterlandref02_Level.j0 k l1 a2 l3 true a0_0 a0_1 l0_2) else (hinterlandref02_Level.j0 k l1 a2 l3 (decide ((l1.length : Int) > 1000)) a0_0 a0_1 l0_2))) else (some (0, 0, ([] : List Int), 0, t320)))) = some (r1, r2, r3, r4, r5) := h
 clear h
 replace H := Option.bind_eq_some_iff.mp H
 obtain ⟨t320, A50, H⟩ := H
 replace H : (if t320 = 0 then (if a2 < 0 then (hinterlandref02_Level.j0 k l1 a2 l3 true a0_0 a0_1 l0_2) else (if a2 > 15 then (hinterlandref02_Level.j0 k l1 a2 l3 true a0_0 a0_1 l0_2) else (hinterlandref02_Level.j0 k l1 a2 l3 (decide ((l1.length : Int) > 1000)) a0_0 a0_1 l0_2))) else (some (0, 0, ([] : List Int), 0, t320))) = some (r1, r2, r3, r4, r5) := H
 have A5 := Aside0.mk A50
 clear A50
 by_cases c6 : t320 = 0
 ·rw [if_pos c6] at H
  have c6b0 : (t320 == 0) = true := beq_iff_eq.mpr c6
  have c6b1 : (t320 != 0) = false := bne_eq_false_iff_eq.mpr c6
  clear c6
  have HC7 := Aside0.mk H
  clear H
  go_enter Try.func24, Try.ntmps24
  go_upto_region 4 with (first | ((with_reducible refine gate_dst (N := 4) rfl ?_); (try (refine gate_guard (by rfl) ?_; dsimp only)); refine box_event ?hg (N := 4) ?hd (cs := #[.int .i64 a0_0, .int .i64 a0_1, .slice A0_2 l0_2.length c0_2]) (t := 24) ?hr ?_; (case hd => rfl); (case hg => rfl); (case hr => first | (go_simp; done) | (go_simp; rfl)); intro gb318 hg w8 hbox hb; have BK318 := Aside0.mk (hbox); have GW318 := Aside0.mk ((dS_ hg (dL_ HB) : w.heap.size ≤ gb318)); have GE318 := Aside0.mk ((dS_ hg (dL_ HB) : w.heap.size ≤ gb318)); replace HB := Aside0.mk (below_step (dL_ HB) hb); clear hb hbox hg) | ((with_reducible refine gate_dst (N := 8) rfl ?_); (try (refine gate_guard (by rfl) ?_; dsimp only)); refine box_event ?hg (N := 8) ?hd (cs := #[.int .i64 0, .int .i64 0, .slice none 0 0]) (t := 24) ?hr ?_; (case hd => rfl); (case hg => rfl); (case hr => first | (go_simp; done) | (go_simp; rfl)); intro gb319 hg w9 hbox hb; have BK319 := Aside0.mk (hbox); have GW319 := Aside0.mk ((dS_ hg (dL1_ HB GE318) : w.heap.size ≤ gb319)); have GE319 := Aside0.mk ((dS_ hg (dL1_ HB GE318) : w.heap.size ≤ gb319)); replace HB := Aside0.mk (below_step (dL1_ HB GE318) hb); have NB318_319 := Aside0.mk ((by rw [hg]; exact Nat.ne_of_lt (blk_lt (dB_ BK318)) : gb318 ≠ gb319)); have NB319_318 := Aside0.mk ((by rw [hg]; exact Nat.ne_of_gt (blk_lt (dB_ BK318)) : gb319 ≠ gb318)); replace BK318 := Aside0.mk (blk_below (g := gb318) (o := .cells #[.int .i64 a0_0, .int .i64 a0_1, .slice A0_2 l0_2.length c0_2] 24 (0, 0)) (dB_ BK318) hb); clear hb hbox hg; have hnb10 := NB318_319.out; have hnc10 := NB319_318.out; obtain ⟨hcz11_0, hcz11_1, hcz11_2, hfz11_0, hfz11_1, hfz11_2⟩ := cs3_ BK318.out) | ((with_reducible refine gate_callee (f := 18) rfl ?_); refine goesL_ (some 25) rfl rfl Try.func18 (by kernel_rfl) rfl #[.agg #[.int .i64 a0_0, .int .i64 a0_1, .slice A0_2 l0_2.length c0_2]] rfl tA_ ?_; (with_reducible refine (hinterlandref02_Validate.calls k a0_0 a0_1 _ _ l0_2 t320 _ ?side1 ?side2 A5.out).mono ?_); (case side1 => exact dC_ HR0_2 HB); (case side2 => exact HC0_2.out); rintro e w12 ⟨rfl, hb⟩; refine ⟨_, rfl, ?_⟩; replace BK318 := Aside0.mk (blk_below (g := gb318) (o := .cells #[.int .i64 a0_0, .int .i64 a0_1, .slice A0_2 l0_2.length c0_2] 24 (0, 0)) (dB_ BK318) hb); replace BK319 := Aside0.mk (blk_below (g := gb319) (o := .cells #[.int .i64 0, .int .i64 0, .slice none 0 0] 24 (0, 0)) (dB_ BK319) hb); replace HB := Aside0.mk (below_step (dL2_ HB GE318 GE319) hb)))
  (try simp only [Act.put, sI_, s0_, sS_])
  go_cut [40] (fun v40 wc => ∃ (kq : Nat) (x40_6 : Bool), v40 = .bool x40_6 ∧ Aside0 (hinterlandref02_Level.j0 kq l1 a2 l3 x40_6 a0_0 a0_1 l0_2 = some (r1, r2, r3, r4, r5)) ∧ Aside0 (kq ≤ k) ∧ Aside0 (wc.heap[gb318]? = some (.cells #[.int .i64 a0_0, .int .i64 a0_1, (.slice A0_2 l0_2.length c0_2)] 24 (0, 0))) ∧ Aside0 (wc.heap[gb319]? = some (.cells #[.int .i64 0, .int .i64 0, (.slice none 0 0)] 24 (0, 0))) ∧ Aside0 (Below w.heap.size w wc))
  case first =>
   have H := HC7.out
   clear HC7
   by_cases c13 : a2 < 0
   ·rw [if_pos c13] at H
    have c13b0 : decide (a2 < 0) = true := decide_eq_true c13
    clear c13
    (first | rw [c13b0] | (simp only [i64_w, i32_w]; rw [c13b0]) | skip)
    have H' := Aside0.mk H
    clear H
    go_wp2
    go_meet
    case rel => exact ⟨_, (true), tS_, H', ⟨by first | omega | exact Nat.le_refl _⟩, ⟨dB_ BK318⟩, ⟨dB_ BK319⟩, ⟨dL2_ HB GE318 GE319⟩⟩
   ·rw [if_neg c13] at H
    have c13b0 : decide (a2 < 0) = false := decide_eq_false c13
    clear c13
    (first | rw [c13b0] | (simp only [i64_w, i32_w]; rw [c13b0]) | skip)
    by_cases c14 : a2 > 15
    ·rw [if_pos c14] at H
     have c14b0 : decide (15 < a2) = true := decide_eq_true c14
     clear c14
     have H' := Aside0.mk H
     clear H
     go_wp2
     go_meet
     case rel => exact ⟨_, (true), tS_, H', ⟨by first | omega | exact Nat.le_refl _⟩, ⟨dB_ BK318⟩, ⟨dB_ BK319⟩, ⟨dL2_ HB GE318 GE319⟩⟩
    ·rw [if_neg c14] at H
     have c14b0 : decide (15 < a2) = false := decide_eq_false c14
     clear c14
     have H' := Aside0.mk H
     clear H
     go_wp2
     go_meet
     case rel => exact ⟨_, (decide ((l1.length : Int) > 1000)), tS_, H', ⟨by first | omega | exact Nat.le_refl _⟩, ⟨dB_ BK318⟩, ⟨dB_ BK319⟩, ⟨dL2_ HB GE318 GE319⟩⟩
  case rest =>
   clear HC7
   try clear c1
   try clear c3
   try clear c6
   try clear c6b0
   try clear c6b1
   try clear c13
   try clear c14
   try clear hcz11_0
   try clear hcz11_1
   try clear hcz11_2
   try clear hfz11_0
   try clear hfz11_1
   try clear hfz11_2
   obtain ⟨kq, x40_6, rfl, HA, HJ6, BK318, BK319, HB⟩ := hcut
   cases kq with
   | zero => exact absurd HA.out (by simp [hinterlandref02_Level.j0])
   | succ kj6 =>
    have H := HA.out
    clear HA
    simp only [hinterlandref02_Level.j0] at H
    by_cases c15 : x40_6 = true
    ·subst c15
     have H1 : (some (0, 0, ([] : List Int), 0, 1)) = some (r1, r2, r3, r4, r5) := by rw [if_pos rfl] at H; exact H
     clear H
     have H := H1
     clear H1
     simp only [Option.some.injEq, Prod.mk.injEq] at H
     obtain ⟨rfl, rfl, rfl, rfl, rfl⟩ := H
     have hnb16 := NB319_318.out
     have hnc16 := NB318_319.out
     obtain ⟨hcz17_0, hcz17_1, hcz17_2, hfz17_0, hfz17_1, hfz17_2⟩ := cs3_ BK319.out
     go_wp2
     refine bodyPost_ret (results_ctt rfl _ _ gb319 24 #[.int .i64 0, .int .i64 0, .slice none 0 0] (0, 0) _ rfl (by (with_reducible repeat (first | refine blk_drewN ?_ _ | refine blk_drew ?_ | refine blk_alloc ?_ _)); refine blk_put (cs := #[.int .i64 0, .int .i64 0, .slice none 0 0]) ?_ 2 _ rfl; (with_reducible repeat (first | refine blk_drewN ?_ _ | refine blk_drew ?_ | refine blk_alloc ?_ _)); refine blk_put (cs := #[.int .i64 0, .int .i64 0, .slice none 0 0]) ?_ 1 _ rfl; (with_reducible repeat (first | refine blk_drewN ?_ _ | refine blk_drew ?_ | refine blk_alloc ?_ _)); refine blk_put (cs := #[.int .i64 0, .int .i64 0, .slice none 0 0]) ?_ 0 _ rfl; (with_reducible repeat (first | refine blk_drewN ?_ _ | refine blk_drew ?_ | refine blk_alloc ?_ _)); exact BK319.out) Try.underlying24 rfl (by kernel_rfl)) rfl ?_
     exact ⟨_, tE_, by first | exact Kd.R_nil _ _ _ _ _ | exact Kd.N_nil _ _ _ _ _ | exact Kd.V_nil _ _ _ _ _ | exact Kd.Q_nil _ _ _ _ _ | exact Kd.S_nil _ _ _ _ _, dL2_ HB GE318 GE319⟩
    ·replace c15 := Bool.eq_false_iff.mpr c15
     subst c15
     have H1 : (hinterlandref02_Level.l0 kj6 l1 a2 l3 l1 (l1.length : Int) 0 a0_0 a0_1 l0_2) = some (r1, r2, r3, r4, r5) := by rw [if_neg (show ¬ (false = true) by decide)] at H; exact H
     clear H
     have H := H1
     clear H1
     have H' := Aside0.mk H
     clear H
     go_wp2
     go_loopg [44] kj6 (fun kq v44 w' => ∃ (x44_2 : Int) (x320000_2 : Int) (x320001_2 : Int), v44 = .int .i64 x44_2 ∧ Aside0 (hinterlandref02_Level.l0 kq l1 a2 l3 l1 (l1.length : Int) x44_2 a0_0 a0_1 l0_2 = some (r1, r2, r3, r4, r5)) ∧ Aside0 (kq ≤ kj6) ∧ Aside0 (w'.heap[gb318]? = some (.cells #[.int .i64 a0_0, .int .i64 a0_1, (.slice A0_2 l0_2.length c0_2)] 24 (0, 0))) ∧ Aside0 (w'.heap[gb319]? = some (.cells #[.int .i64 x320000_2, .int .i64 x320001_2, (.slice none 0 0)] 24 (0, 0))) ∧ Aside0 (Below w.heap.size w w'))
     case atStart => exact ⟨(0), (0), (0), tS_, H', ⟨Nat.le_refl _⟩, ⟨dB_ BK318⟩, ⟨dB_ BK319⟩, ⟨dL2_ HB GE318 GE319⟩⟩
     case round =>
      clear H'
      try clear c1
      try clear c3
      try clear c6
      try clear c6b0
      try clear c6b1
      try clear c13
      try clear c14
      try clear c15
      try clear hcz11_0
      try clear hcz11_1
      try clear hcz11_2
      try clear hfz11_0
      try clear hfz11_1
      try clear hfz11_2
      obtain ⟨x44_2, x320000_2, x320001_2, rfl, HA, HK2, BK318, BK319, HB⟩ := hrel
      cases gk with
      | zero => exact absurd HA.out (by simp [hinterlandref02_Level.l0])
      | succ k2 =>
       have H := HA.out
       clear HA
       simp only [hinterlandref02_Level.l0] at H
       by_cases c18 : x44_2 < (l1.length : Int)
       ·rw [if_pos c18] at H
        have c18b0 : decide (x44_2 < (l1.length : Int)) = true := decide_eq_true c18
        clear c18
        by_cases c19 : 0 ≤ x44_2
        ·rw [if_pos c19] at H
         have c19b0 : decide (0 ≤ x44_2) = true := decide_eq_true c19
         clear c19
         by_cases c20 : x44_2 < (l1.length : Int)
         ·rw [if_pos c20] at H
          have c20b0 : decide (x44_2 < (l1.length : Int)) = true := decide_eq_true c20
          clear c20
          replace H := Option.bind_eq_some_iff.mp H
          obtain ⟨t322, A210, H⟩ := H
          replace H : (if t322 = true then (hinterlandref02_Level.l0 k2 l1 a2 l3 l1 (l1.length : Int) (wrap64 (x44_2 + 1)) a0_0 a0_1 l0_2) else (some (0, 0, ([] : List Int), 0, 2))) = some (r1, r2, r3, r4, r5) := H
          have A21 := Aside0.mk A210
          clear A210
          by_cases c22 : t322 = true
          ·subst c22
           have H1 : (hinterlandref02_Level.l0 k2 l1 a2 l3 l1 (l1.length : Int) (wrap64 (x44_2 + 1)) a0_0 a0_1 l0_2) = some (r1, r2, r3, r4, r5) := by rw [if_pos rfl] at H; exact H
           clear H
           have H := H1
           clear H1
           have H' := Aside0.mk H
           clear H
           have p321 : 0 ≤ (x44_2 : Int) := of_decide_eq_true tW_
           have q321 : x44_2 < (l1.length : Int) := of_decide_eq_true tW_
           obtain ⟨ad321, e321, hx321_0⟩ := Kd.at_int HR1.out x44_2 p321 q321
           cases e321
           replace hx321_0 := bc_ HB hx321_0
           replace p321 := eq_true p321
           replace q321 := eq_true q321
           have hnb23 := NB318_319.out
           have hnc23 := NB319_318.out
           obtain ⟨hcz24_0, hcz24_1, hcz24_2, hfz24_0, hfz24_1, hfz24_2⟩ := cs3_ BK318.out
           go_wp2_with (first | ((with_reducible refine gate_callee (f := 40) rfl ?_); refine goesL_ (some 50) rfl rfl Try.func40 (by kernel_rfl) rfl #[.agg #[.int .i64 a0_0, .int .i64 a0_1, .slice A0_2 l0_2.length c0_2], .int .i64 (rd l1 x44_2)] rfl tA_ ?_; (with_reducible refine (hinterlandref02_Is.calls a0_0 a0_1 _ _ l0_2 (rd l1 x44_2) true _ ?side1 ?side2 A21.out).mono ?_); (case side1 => exact dC_ HR0_2 HB); (case side2 => exact HC0_2.out); rintro e w25 ⟨rfl, hb⟩; refine ⟨_, rfl, ?_⟩; replace BK318 := Aside0.mk (blk_below (g := gb318) (o := .cells #[.int .i64 a0_0, .int .i64 a0_1, .slice A0_2 l0_2.length c0_2] 24 (0, 0)) (dB_ BK318) hb); replace BK319 := Aside0.mk (blk_below (g := gb319) (o := .cells #[.int .i64 x320000_2, .int .i64 x320001_2, .slice none 0 0] 24 (0, 0)) (dB_ BK319) hb); replace HB := Aside0.mk (below_step (dL2_ HB GE318 GE319) hb)))
           go_roundg k2
           case measure => have := HJ6.out; have := HK2.out; omega
           case rel => exact ⟨(wrap64 (x44_2 + 1)), (x320000_2), (x320001_2), tS_, H', ⟨by have := HJ6.out; have := HK2.out; omega⟩, ⟨dB_ BK318⟩, ⟨dB_ BK319⟩, ⟨dL2_ HB GE318 GE319⟩⟩
          ·replace c22 := Bool.eq_false_iff.mpr c22
           subst c22
           have H1 : (some (0, 0, ([] : List Int), 0, 2)) = some (r1, r2, r3, r4, r5) := by rw [if_neg (show ¬ (false = true) by decide)] at H; exact H
           clear H
           have H := H1
           clear H1
           simp only [Option.some.injEq, Prod.mk.injEq] at H
           obtain ⟨rfl, rfl, rfl, rfl, rfl⟩ := H
           have p321 : 0 ≤ (x44_2 : Int) := of_decide_eq_true tW_
           have q321 : x44_2 < (l1.length : Int) := of_decide_eq_true tW_
           obtain ⟨ad321, e321, hx321_0⟩ := Kd.at_int HR1.out x44_2 p321 q321
           cases e321
           replace hx321_0 := bc_ HB hx321_0
           replace p321 := eq_true p321
           replace q321 := eq_true q321
           have hnb26 := NB318_319.out
           have hnc26 := NB319_318.out
           obtain ⟨hcz27_0, hcz27_1, hcz27_2, hfz27_0, hfz27_1, hfz27_2⟩ := cs3_ BK318.out
           go_wp2_with (first | ((with_reducible refine gate_callee (f := 40) rfl ?_); refine goesL_ (some 50) rfl rfl Try.func40 (by kernel_rfl) rfl #[.agg #[.int .i64 a0_0, .int .i64 a0_1, .slice A0_2 l0_2.length c0_2], .int .i64 (rd l1 x44_2)] rfl tA_ ?_; (with_reducible refine (hinterlandref02_Is.calls a0_0 a0_1 _ _ l0_2 (rd l1 x44_2) false _ ?side1 ?side2 A21.out).mono ?_); (case side1 => exact dC_ HR0_2 HB); (case side2 => exact HC0_2.out); rintro e w28 ⟨rfl, hb⟩; refine ⟨_, rfl, ?_⟩; replace BK318 := Aside0.mk (blk_below (g := gb318) (o := .cells #[.int .i64 a0_0, .int .i64 a0_1, .slice A0_2 l0_2.length c0_2] 24 (0, 0)) (dB_ BK318) hb); replace BK319 := Aside0.mk (blk_below (g := gb319) (o := .cells #[.int .i64 x320000_2, .int .i64 x320001_2, .slice none 0 0] 24 (0, 0)) (dB_ BK319) hb); replace HB := Aside0.mk (below_step (dL2_ HB GE318 GE319) hb); obtain ⟨hcz29_0, hcz29_1, hcz29_2, hfz29_0, hfz29_1, hfz29_2⟩ := cs3_ BK319.out))
           refine bodyPost_ret (results_ctt rfl _ _ gb319 24 #[.int .i64 0, .int .i64 0, .slice none 0 0] (0, 0) _ rfl (by (with_reducible repeat (first | refine blk_drewN ?_ _ | refine blk_drew ?_ | refine blk_alloc ?_ _)); refine blk_put (cs := #[.int .i64 0, .int .i64 0, .slice none 0 0]) ?_ 2 _ rfl; (with_reducible repeat (first | refine blk_drewN ?_ _ | refine blk_drew ?_ | refine blk_alloc ?_ _)); refine blk_put (cs := #[.int .i64 0, .int .i64 x320001_2, .slice none 0 0]) ?_ 1 _ rfl; (with_reducible repeat (first | refine blk_drewN ?_ _ | refine blk_drew ?_ | refine blk_alloc ?_ _)); refine blk_put (cs := #[.int .i64 x320000_2, .int .i64 x320001_2, .slice none 0 0]) ?_ 0 _ rfl; (with_reducible repeat (first | refine blk_drewN ?_ _ | refine blk_drew ?_ | refine blk_alloc ?_ _)); exact BK319.out) Try.underlying24 rfl (by kernel_rfl)) rfl ?_
           exact ⟨_, tE_, by first | exact Kd.R_nil _ _ _ _ _ | exact Kd.N_nil _ _ _ _ _ | exact Kd.V_nil _ _ _ _ _ | exact Kd.Q_nil _ _ _ _ _ | exact Kd.S_nil _ _ _ _ _, dL2_ HB GE318 GE319⟩
         ·rw [if_neg c20] at H
          exact absurd H (by simp)
        ·rw [if_neg c19] at H
         exact absurd H (by simp)
       ·rw [if_neg c18] at H
        have c18b0 : decide (x44_2 < (l1.length : Int)) = false := decide_eq_false c18
        clear c18
        by_cases c30 : ([] : List Int).length + l0_2.length < 17592186044416
        ·rw [if_pos c30] at H
         have LMc30 := Aside0.mk c30
         clear c30
         obtain ⟨y323, hy323⟩ : ∃ y_ : List Int, y_ = (([] : List Int) ++ l0_2) := ⟨_, rfl⟩
         replace H : (hinterlandref02_Level.l1 k2 a2 l3 0 l1 (l1.length : Int) 0 a0_0 a0_1 l0_2 a0_0 a0_1 y323) = some (r1, r2, r3, r4, r5) := by first | (rw [hy323]; with_reducible exact H) | (have H2_ := (Option.bind_some _ _).symm.trans H; rw [hy323]; with_reducible exact H2_) | (have H2_ := (Option.bind_some _ _).symm.trans H; with_reducible exact H2_) | with_reducible exact H | (rw [hy323]; exact H) | exact H
         have Ny323 := Aside0.mk hy323
         clear hy323
         have H' := Aside0.mk H
         clear H
         try go_wp2
         replace BK318 := Aside0.mk (blk_drew BK318.out)
         replace BK319 := Aside0.mk (blk_drew BK319.out)
         replace HB := Aside0.mk (below_drew1 HB.out)
         refine start_ (n := 10) (S := fun w' => w'.cell? ⟨gb318, 0, none⟩ = some (.int .i64 a0_0) ∧ w'.cell? ⟨gb318, 1, none⟩ = some (.int .i64 a0_1) ∧ w'.cell? ⟨gb318, 2, none⟩ = some (.slice A0_2 l0_2.length c0_2)) (ds := []) #[false, false, false, false, false, false, false, false, false, false] (by kernel_rfl) rfl rfl ⟨(blk_cell BK318.out 0).trans rfl, (blk_cell BK318.out 1).trans rfl, (blk_cell BK318.out 2).trans rfl⟩ (fun hHeld => ?_); refine with_tabW hinterlandref02_Level.tab12 hinterlandref02_Level.bits12 (fun HT_ HW_ => ?_)
         generalize wr.drew = w31 at BK318 BK319 HB hHeld ⊢
         refine pure_ (i := 0) (N := some 54) (v := ?_) (a' := ?_) #[true, false, false, false, false, false, false, false, false, false] rfl rfl (any_of HT_.out (by kernel_rfl)) (fun _ _ _ h => h) (Or.inl ⟨by rfl, ?_⟩) ?_ ?_
         rotate_left
         ·intro w'
          go_simp
          with_reducible rfl
         rotate_left
         ·simp only [Act.put, sI_, s0_, sS_, i64_w, i32_w]
          rfl
         refine pure_ (i := 2) (N := some 56) (v := ?_) (a' := ?_) #[true, false, true, false, false, false, false, false, false, false] rfl rfl (any_of HT_.out (by kernel_rfl)) (fun _ _ _ h => h) (Or.inl ⟨by rfl, ?_⟩) ?_ ?_
         rotate_left
         ·intro w'
          go_simp
          with_reducible rfl
         rotate_left
         ·simp only [Act.put, sI_, s0_, sS_, i64_w, i32_w]
          rfl
         refine pure_ (i := 4) (N := some 58) (v := ?_) (a' := ?_) #[true, false, true, false, true, false, false, false, false, false] rfl rfl (any_of HT_.out (by kernel_rfl)) (fun _ _ _ h => h) (Or.inl ⟨by rfl, ?_⟩) ?_ ?_
         rotate_left
         ·intro w'
          go_simp
          with_reducible rfl
         rotate_left
         ·simp only [Act.put, sI_, s0_, sS_, i64_w, i32_w]
          rfl
         refine take_ (i := 1) (N := some 55) (v := ?_) (a' := ?_) #[true, true, true, false, true, false, false, false, false, false] rfl rfl (take_ofW HT_.out HW_.out (by kernel_rfl)) (fun _ _ _ h => h) (Or.inl ⟨by rfl, ?_⟩) hHeld ?_ ?_
         rotate_left
         ·rintro w' ⟨s0, s1, s2⟩
          go_simp
          with_reducible rfl
         rotate_left
         ·simp only [Act.put, sI_, s0_, sS_, i64_w, i32_w]
          rfl
         refine take_ (i := 3) (N := some 57) (v := ?_) (a' := ?_) #[true, true, true, true, true, false, false, false, false, false] rfl rfl (take_ofW HT_.out HW_.out (by kernel_rfl)) (fun _ _ _ h => h) (Or.inl ⟨by rfl, ?_⟩) hHeld ?_ ?_
         rotate_left
         ·rintro w' ⟨s0, s1, s2⟩
          go_simp
          with_reducible rfl
         rotate_left
         ·simp only [Act.put, sI_, s0_, sS_, i64_w, i32_w]
          rfl
         refine take_ (i := 5) (N := some 59) (v := ?_) (a' := ?_) #[true, true, true, true, true, true, false, false, false, false] rfl rfl (take_ofW HT_.out HW_.out (by kernel_rfl)) (fun _ _ _ h => h) (Or.inl ⟨by rfl, ?_⟩) hHeld ?_ ?_
         rotate_left
         ·rintro w' ⟨s0, s1, s2⟩
          go_simp
          with_reducible rfl
         rotate_left
         ·simp only [Act.put, sI_, s0_, sS_, i64_w, i32_w]
          rfl
         refine join_ (σ := Value × Nat) 1 #[true, true, true, true, true, true, true, true, true, false] (fun s_ => [(60, s_.1), (14, .pointer (some ⟨s_.2, 0, none⟩)), (61, .agg #[.int .i64 a0_0, .int .i64 a0_1, s_.1])]) (fun s_ w' => (w'.cell? ⟨gb318, 0, none⟩ = some (.int .i64 a0_0) ∧ w'.cell? ⟨gb318, 1, none⟩ = some (.int .i64 a0_1) ∧ w'.cell? ⟨gb318, 2, none⟩ = some (.slice A0_2 l0_2.length c0_2)) ∧ (Kd.R (Kd.int .i64) 3 w' w.heap.size (fun _ => True) s_.1 y323) ∧ (w'.heap[gb318]? = some (.cells #[.int .i64 a0_0, .int .i64 a0_1, .slice A0_2 l0_2.length c0_2] 24 (0, 0))) ∧ (w'.heap[gb319]? = some (.cells #[.int .i64 x320000_2, .int .i64 x320001_2, .slice none 0 0] 24 (0, 0))) ∧ (w'.heap[s_.2]? = some (.cells #[.int .i64 0, .int .i64 0, .slice none 0 0] 24 (0, 0))) ∧ (w.heap.size ≤ s_.2) ∧ (w.heap.size ≤ s_.2) ∧ (gb318 ≠ s_.2) ∧ (s_.2 ≠ gb318) ∧ (gb319 ≠ s_.2) ∧ (s_.2 ≠ gb319) ∧ (Below w.heap.size w w')) ?_ ?_
         rotate_left
         ·intro hCont
          refine two_ (i := 6) (j := 8) (Ni := some 60) (Nj := some 14) #[true, true, true, true, true, true, true, false, false, false] #[true, true, true, true, true, true, false, false, true, false] rfl rfl rfl rfl (two_of HT_.out (by kernel_rfl)) (by decide) (by decide) (fun K hK => ?_) (fun K hK => ?_)
          ·skip
           refine Kd.R_append_rows_step (Kd.int .i64) (w0 := w) w.heap.size (by rfl) (.const (.slice none 0 0)) (.tmp 59) 22 3 (.int .i64 0) 8 rfl Try.underlying22 info3 rfl (by decide) (by omega) (.slice none 0 0) ([] : List Int) l0_2 _ _ _ (fun _ => True) (fun _ => False) rfl rfl ?aO ?aR (fun _ _ h => h) (fun _ h => h.elim) ?aF ?aB ?aS ?aL ?_
           (case aR => exact dC_ HR0_2 HB)
           (case aB => exact (dL2_ HB GE318 GE319))
           (case aF => exact (fun _ _ => trivial))
           (case aO => exact ((Kd.R_nil _ _ _ _ (fun _ => True))))
           (case aS => exact (below_size (dL2_ HB GE318 GE319)))
           (case aL => have := LMc30.out; omega)
           intro v324 w32 ho hb hg hat
           rw [← Ny323.out] at ho
           replace BK318 := Aside0.mk (blk_grown (g := gb318) (o := .cells #[.int .i64 a0_0, .int .i64 a0_1, .slice A0_2 l0_2.length c0_2] 24 (0, 0)) (dB_ BK318) hg (by simp [Value.ownBlock]))
           replace BK319 := Aside0.mk (blk_grown (g := gb319) (o := .cells #[.int .i64 x320000_2, .int .i64 x320001_2, .slice none 0 0] 24 (0, 0)) (dB_ BK319) hg (by simp [Value.ownBlock]))
           replace HB := Aside0.mk (hb)
           have HO325 := Aside0.mk (ho)
           clear ho hb hg hat
           obtain ⟨Ao33, co33, eo33⟩ := Kd.R_slice HO325.out
           (first | subst eo33 | (injection eo33 with f1_ f2_ f3_; have f4_ := f1_.symm; have f5_ := f3_.symm; clear f1_ f2_ f3_; subst f4_; subst f5_))
           refine hK.out _ _ ⟨(blk_cell BK318.out 0).trans rfl, (blk_cell BK318.out 1).trans rfl, (blk_cell BK318.out 2).trans rfl⟩ (fun hHeld => ?_)
           clear hK K
           refine norm_ (a' := ?_) ?_ ?_
           rotate_left
           ·show Act.put _ (some 60) _ = _
            simp only [Act.put, sI_, s0_, sS_, i64_w, i32_w]
            rfl
           refine pure_ (i := 7) (N := some 61) (v := ?_) (a' := ?_) #[true, true, true, true, true, true, true, true, false, false] rfl rfl (any_of HT_.out (by kernel_rfl)) (fun _ _ _ h => h) (Or.inl ⟨by rfl, ?_⟩) ?_ ?_
           rotate_left
           ·intro w'
            go_simp
            with_reducible rfl
           rotate_left
           ·simp only [Act.put, sI_, s0_, sS_, i64_w, i32_w]
            rfl
           refine one_ (i := 8) (N := some 14) #[true, true, true, true, true, true, true, true, true, false] rfl rfl (one_of HT_.out (by kernel_rfl)) (by decide) (fun K hK => ?_)
           refine box_step ?hg (N := 14) ?hd (cs := #[.int .i64 0, .int .i64 0, .slice none 0 0]) (t := 24) ?hr ?_; (case hd => rfl); (case hg => rfl); (case hr => first | (go_simp; done) | (go_simp; rfl))
           intro gb326 hg w34 hbox hb
           replace HO325 := Aside0.mk (Kd.R_below (dR_ HO325) hb)
           have BK326 := Aside0.mk (hbox)
           have GW326 := Aside0.mk ((dS_ hg (dL2_ HB GE318 GE319) : w.heap.size ≤ gb326))
           have GE326 := Aside0.mk ((dS_ hg (dL2_ HB GE318 GE319) : w.heap.size ≤ gb326))
           replace HB := Aside0.mk (below_step (dL2_ HB GE318 GE319) hb)
           have NB318_326 := Aside0.mk ((by rw [hg]; exact Nat.ne_of_lt (blk_lt (dB_ BK318)) : gb318 ≠ gb326))
           have NB326_318 := Aside0.mk ((by rw [hg]; exact Nat.ne_of_gt (blk_lt (dB_ BK318)) : gb326 ≠ gb318))
           replace BK318 := Aside0.mk (blk_below (g := gb318) (o := .cells #[.int .i64 a0_0, .int .i64 a0_1, .slice A0_2 l0_2.length c0_2] 24 (0, 0)) (dB_ BK318) hb)
           have NB319_326 := Aside0.mk ((by rw [hg]; exact Nat.ne_of_lt (blk_lt (dB_ BK319)) : gb319 ≠ gb326))
           have NB326_319 := Aside0.mk ((by rw [hg]; exact Nat.ne_of_gt (blk_lt (dB_ BK319)) : gb326 ≠ gb319))
           replace BK319 := Aside0.mk (blk_below (g := gb319) (o := .cells #[.int .i64 x320000_2, .int .i64 x320001_2, .slice none 0 0] 24 (0, 0)) (dB_ BK319) hb)
           clear hb hbox hg
           refine hK.out _ _ ⟨(blk_cell BK318.out 0).trans rfl, (blk_cell BK318.out 1).trans rfl, (blk_cell BK318.out 2).trans rfl⟩ (fun hHeld => ?_)
           clear hK K
           refine norm_ (a' := ?_) ?_ ?_
           rotate_left
           ·show Act.put _ (some 14) _ = _
            simp only [Act.put, sI_, s0_, sS_, i64_w, i32_w]
            rfl
           exact norm_ (by simp only [putAll, Act.put, sI_, s0_, sS_]) (hCont (.slice Ao33 y323.length co33, gb326) _ ⟨hHeld, (dR_ HO325), (dB_ BK318), (dB_ BK319), (dB_ BK326), GW326.out, GE326.out, NB318_326.out, NB326_318.out, NB319_326.out, NB326_319.out, (dL3_ HB GE318 GE319 GE326)⟩)
          ·skip
           refine box_step ?hg (N := 14) ?hd (cs := #[.int .i64 0, .int .i64 0, .slice none 0 0]) (t := 24) ?hr ?_; (case hd => rfl); (case hg => rfl); (case hr => first | (go_simp; done) | (go_simp; rfl))
           intro gb326 hg w32 hbox hb
           have BK326 := Aside0.mk (hbox)
           have GW326 := Aside0.mk ((dS_ hg (dL2_ HB GE318 GE319) : w.heap.size ≤ gb326))
           have GE326 := Aside0.mk ((dS_ hg (dL2_ HB GE318 GE319) : w.heap.size ≤ gb326))
           replace HB := Aside0.mk (below_step (dL2_ HB GE318 GE319) hb)
           have NB318_326 := Aside0.mk ((by rw [hg]; exact Nat.ne_of_lt (blk_lt (dB_ BK318)) : gb318 ≠ gb326))
           have NB326_318 := Aside0.mk ((by rw [hg]; exact Nat.ne_of_gt (blk_lt (dB_ BK318)) : gb326 ≠ gb318))
           replace BK318 := Aside0.mk (blk_below (g := gb318) (o := .cells #[.int .i64 a0_0, .int .i64 a0_1, .slice A0_2 l0_2.length c0_2] 24 (0, 0)) (dB_ BK318) hb)
           have NB319_326 := Aside0.mk ((by rw [hg]; exact Nat.ne_of_lt (blk_lt (dB_ BK319)) : gb319 ≠ gb326))
           have NB326_319 := Aside0.mk ((by rw [hg]; exact Nat.ne_of_gt (blk_lt (dB_ BK319)) : gb326 ≠ gb319))
           replace BK319 := Aside0.mk (blk_below (g := gb319) (o := .cells #[.int .i64 x320000_2, .int .i64 x320001_2, .slice none 0 0] 24 (0, 0)) (dB_ BK319) hb)
           clear hb hbox hg
           refine hK.out _ _ ⟨(blk_cell BK318.out 0).trans rfl, (blk_cell BK318.out 1).trans rfl, (blk_cell BK318.out 2).trans rfl⟩ (fun hHeld => ?_)
           clear hK K
           refine norm_ (a' := ?_) ?_ ?_
           rotate_left
           ·show Act.put _ (some 14) _ = _
            simp only [Act.put, sI_, s0_, sS_, i64_w, i32_w]
            rfl
           refine one_ (i := 6) (N := some 60) #[true, true, true, true, true, true, true, false, true, false] rfl rfl (one_of HT_.out (by kernel_rfl)) (by decide) (fun K hK => ?_)
           refine Kd.R_append_rows_step (Kd.int .i64) (w0 := w) w.heap.size (by rfl) (.const (.slice none 0 0)) (.tmp 59) 22 3 (.int .i64 0) 8 rfl Try.underlying22 info3 rfl (by decide) (by omega) (.slice none 0 0) ([] : List Int) l0_2 _ _ _ (fun _ => True) (fun _ => False) rfl rfl ?aO ?aR (fun _ _ h => h) (fun _ h => h.elim) ?aF ?aB ?aS ?aL ?_
           (case aR => exact dC_ HR0_2 HB)
           (case aB => exact (dL3_ HB GE318 GE319 GE326))
           (case aF => exact (fun _ _ => trivial))
           (case aO => exact ((Kd.R_nil _ _ _ _ (fun _ => True))))
           (case aS => exact (below_size (dL3_ HB GE318 GE319 GE326)))
           (case aL => have := LMc30.out; omega)
           intro v324 w33 ho hb hg hat
           rw [← Ny323.out] at ho
           replace BK318 := Aside0.mk (blk_grown (g := gb318) (o := .cells #[.int .i64 a0_0, .int .i64 a0_1, .slice A0_2 l0_2.length c0_2] 24 (0, 0)) (dB_ BK318) hg (by simp [Value.ownBlock]))
           replace BK319 := Aside0.mk (blk_grown (g := gb319) (o := .cells #[.int .i64 x320000_2, .int .i64 x320001_2, .slice none 0 0] 24 (0, 0)) (dB_ BK319) hg (by simp [Value.ownBlock]))
           replace BK326 := Aside0.mk (blk_grown (g := gb326) (o := .cells #[.int .i64 0, .int .i64 0, .slice none 0 0] 24 (0, 0)) (dB_ BK326) hg (by simp [Value.ownBlock]))
           replace HB := Aside0.mk (hb)
           have HO325 := Aside0.mk (ho)
           clear ho hb hg hat
           obtain ⟨Ao34, co34, eo34⟩ := Kd.R_slice HO325.out
           (first | subst eo34 | (injection eo34 with f1_ f2_ f3_; have f4_ := f1_.symm; have f5_ := f3_.symm; clear f1_ f2_ f3_; subst f4_; subst f5_))
           refine hK.out _ _ ⟨(blk_cell BK318.out 0).trans rfl, (blk_cell BK318.out 1).trans rfl, (blk_cell BK318.out 2).trans rfl⟩ (fun hHeld => ?_)
           clear hK K
           refine norm_ (a' := ?_) ?_ ?_
           rotate_left
           ·show Act.put _ (some 60) _ = _
            simp only [Act.put, sI_, s0_, sS_, i64_w, i32_w]
            rfl
           refine pure_ (i := 7) (N := some 61) (v := ?_) (a' := ?_) #[true, true, true, true, true, true, true, true, true, false] rfl rfl (any_of HT_.out (by kernel_rfl)) (fun _ _ _ h => h) (Or.inl ⟨by rfl, ?_⟩) ?_ ?_
           rotate_left
           ·intro w'
            go_simp
            with_reducible rfl
           rotate_left
           ·simp only [Act.put, sI_, s0_, sS_, i64_w, i32_w]
            rfl
           exact norm_ (by simp only [putAll, Act.put, sI_, s0_, sS_]) (hCont (.slice Ao34 y323.length co34, gb326) _ ⟨hHeld, (dR_ HO325), (dB_ BK318), (dB_ BK319), (dB_ BK326), GW326.out, GE326.out, NB318_326.out, NB326_318.out, NB319_326.out, NB326_319.out, (dL3_ HB GE318 GE319 GE326)⟩)
         rintro ⟨v324, gb326⟩ w35 ⟨hS_, h0_, h1_, h2_, h3_, h4_, h5_, h6_, h7_, h8_, h9_, h10_⟩
         have n0_ : Aside0 (Kd.R (Kd.int .i64) 3 w35 w.heap.size (fun _ => True) v324 y323) := ⟨h0_⟩
         have n1_ : Aside0 (w35.heap[gb318]? = some (.cells #[.int .i64 a0_0, .int .i64 a0_1, .slice A0_2 l0_2.length c0_2] 24 (0, 0))) := ⟨h1_⟩
         have n2_ : Aside0 (w35.heap[gb319]? = some (.cells #[.int .i64 x320000_2, .int .i64 x320001_2, .slice none 0 0] 24 (0, 0))) := ⟨h2_⟩
         have n3_ : Aside0 (w35.heap[gb326]? = some (.cells #[.int .i64 0, .int .i64 0, .slice none 0 0] 24 (0, 0))) := ⟨h3_⟩
         have n4_ : Aside0 (w.heap.size ≤ gb326) := ⟨h4_⟩
         have n5_ : Aside0 (w.heap.size ≤ gb326) := ⟨h5_⟩
         have n6_ : Aside0 (gb318 ≠ gb326) := ⟨h6_⟩
         have n7_ : Aside0 (gb326 ≠ gb318) := ⟨h7_⟩
         have n8_ : Aside0 (gb319 ≠ gb326) := ⟨h8_⟩
         have n9_ : Aside0 (gb326 ≠ gb319) := ⟨h9_⟩
         have n10_ : Aside0 (Below w.heap.size w w35) := ⟨h10_⟩
         clear BK318
         clear BK319
         clear HB
         clear h0_ h1_ h2_ h3_ h4_ h5_ h6_ h7_ h8_ h9_ h10_
         have HO325 := n0_
         have BK318 := n1_
         have BK319 := n2_
         have BK326 := n3_
         have GW326 := n4_
         have GE326 := n5_
         have NB318_326 := n6_
         have NB326_318 := n7_
         have NB319_326 := n8_
         have NB326_319 := n9_
         have HB := n10_
         clear n0_ n1_ n2_ n3_ n4_ n5_ n6_ n7_ n8_ n9_ n10_
         have hHeld : w35.cell? ⟨gb318, 0, none⟩ = some (.int .i64 a0_0) ∧ w35.cell? ⟨gb318, 1, none⟩ = some (.int .i64 a0_1) ∧ w35.cell? ⟨gb318, 2, none⟩ = some (.slice A0_2 l0_2.length c0_2) := hS_
         obtain ⟨Ao36, co36, eo36⟩ := Kd.R_slice HO325.out
         (first | subst eo36 | (injection eo36 with f1_ f2_ f3_; have f4_ := f1_.symm; have f5_ := f3_.symm; clear f1_ f2_ f3_; subst f4_; subst f5_))
         refine norm_ (a' := ?_) ?_ ?_
         rotate_left
         ·simp only [putAll, Act.put, sI_, s0_, sS_]
          rfl
         refine one_ (i := 9) (N := none) #[true, true, true, true, true, true, true, true, true, true] rfl rfl (one_of HT_.out (by kernel_rfl)) (by decide) (fun K hK => ?_)
         have hs37 : w35.cell? ⟨gb326, 0, none⟩ = some (.int .i64 0) := (blk_cell BK326.out 0).trans rfl
         have hfs37 := blk_frozen BK326.out 0
         have hns37_0 := NB318_326.out
         have hns37_1 := NB319_326.out
         have hms37_0 := NB326_318.out
         have hms37_1 := NB326_319.out
         have hs38 : w35.cell? ⟨gb326, 1, none⟩ = some (.int .i64 0) := (blk_cell BK326.out 1).trans rfl
         have hfs38 := blk_frozen BK326.out 1
         have hns38_0 := NB318_326.out
         have hns38_1 := NB319_326.out
         have hms38_0 := NB326_318.out
         have hms38_1 := NB326_319.out
         have hs39 : w35.cell? ⟨gb326, 2, none⟩ = some (.slice none 0 0) := (blk_cell BK326.out 2).trans rfl
         have hfs39 := blk_frozen BK326.out 2
         have hns39_0 := NB318_326.out
         have hns39_1 := NB319_326.out
         have hms39_0 := NB326_318.out
         have hms39_1 := NB326_319.out
         refine skip_ (w1 := ?_) (by rfl) rfl ?_ ?_
         rotate_left
         ·go_simp
          rfl
         refine hK.out _ _ ⟨((cell_far (p := ⟨gb326, _, none⟩) NB318_326.out _).trans (((cell_far (p := ⟨gb326, _, none⟩) NB318_326.out _).trans (((cell_far (p := ⟨gb326, _, none⟩) NB318_326.out _).trans (hHeld.1)))))), ((cell_far (p := ⟨gb326, _, none⟩) NB318_326.out _).trans (((cell_far (p := ⟨gb326, _, none⟩) NB318_326.out _).trans (((cell_far (p := ⟨gb326, _, none⟩) NB318_326.out _).trans (hHeld.2.1)))))), ((cell_far (p := ⟨gb326, _, none⟩) NB318_326.out _).trans (((cell_far (p := ⟨gb326, _, none⟩) NB318_326.out _).trans (((cell_far (p := ⟨gb326, _, none⟩) NB318_326.out _).trans (hHeld.2.2))))))⟩ (fun hHeld => ?_)
         clear hK K
         refine done_ (done_of HT_.out (by kernel_rfl)) ?_
         try go_wp2
         go_loopg [15, 64] k2 (fun kq v15 v64 w' => ∃ (x15_3 : Int) (x64_3 : Int) (x320000_3 : Int) (x320001_3 : Int) (x327000_3 : Int) (x327001_3 : Int) (x327002_3 : List Int) (u327002 : Value), v15 = .int .i64 x15_3 ∧ v64 = .int .i64 x64_3 ∧ Aside0 (hinterlandref02_Level.l1 kq a2 l3 x15_3 l1 (l1.length : Int) x64_3 a0_0 a0_1 l0_2 x327000_3 x327001_3 x327002_3 = some (r1, r2, r3, r4, r5)) ∧ Aside0 (kq ≤ k2) ∧ Aside0 (Kd.R (Kd.int .i64) 3 w' w.heap.size (fun _ => True) u327002 x327002_3) ∧ Aside0 (w'.heap[gb318]? = some (.cells #[.int .i64 a0_0, .int .i64 a0_1, (.slice A0_2 l0_2.length c0_2)] 24 (0, 0))) ∧ Aside0 (w'.heap[gb319]? = some (.cells #[.int .i64 x320000_3, .int .i64 x320001_3, (.slice none 0 0)] 24 (0, 0))) ∧ Aside0 (w'.heap[gb326]? = some (.cells #[.int .i64 x327000_3, .int .i64 x327001_3, u327002] 24 (0, 0))) ∧ Aside0 (Below w.heap.size w w'))
         case atStart => exact ⟨(0), (0), (x320000_2), (x320001_2), (a0_0), (a0_1), (y323), (.slice Ao36 y323.length co36), tS_, tS_, H', ⟨Nat.le_refl _⟩, ⟨by (with_reducible repeat (first | apply Kd.R_alloc | apply Kd.R_drewN | apply Kd.R_drew)); exact Kd.R_mono (Kd.R_far (p := ⟨gb326, 2, none⟩) (Kd.R_far (p := ⟨gb326, 1, none⟩) (Kd.R_far (p := ⟨gb326, 0, none⟩) (Kd.R_types HO325.out BK326.out (by decide)) (fun _ hk => hk.2) (.int .i64 a0_0)) (fun _ hk => hk.2) (.int .i64 a0_1)) (fun _ hk => hk.2) (.slice Ao36 y323.length co36)) (fun _ hk => trivial)⟩, ⟨by (with_reducible repeat (first | refine blk_drewN ?_ _ | refine blk_drew ?_ | refine blk_alloc ?_ _)); refine blk_far ?_ NB318_326.out _; (with_reducible repeat (first | refine blk_drewN ?_ _ | refine blk_drew ?_ | refine blk_alloc ?_ _)); refine blk_far ?_ NB318_326.out _; (with_reducible repeat (first | refine blk_drewN ?_ _ | refine blk_drew ?_ | refine blk_alloc ?_ _)); refine blk_far ?_ NB318_326.out _; (with_reducible repeat (first | refine blk_drewN ?_ _ | refine blk_drew ?_ | refine blk_alloc ?_ _)); exact BK318.out⟩, ⟨by (with_reducible repeat (first | refine blk_drewN ?_ _ | refine blk_drew ?_ | refine blk_alloc ?_ _)); refine blk_far ?_ NB319_326.out _; (with_reducible repeat (first | refine blk_drewN ?_ _ | refine blk_drew ?_ | refine blk_alloc ?_ _)); refine blk_far ?_ NB319_326.out _; (with_reducible repeat (first | refine blk_drewN ?_ _ | refine blk_drew ?_ | refine blk_alloc ?_ _)); refine blk_far ?_ NB319_326.out _; (with_reducible repeat (first | refine blk_drewN ?_ _ | refine blk_drew ?_ | refine blk_alloc ?_ _)); exact BK319.out⟩, ⟨by (with_reducible repeat (first | refine blk_drewN ?_ _ | refine blk_drew ?_ | refine blk_alloc ?_ _)); refine blk_put (cs := #[.int .i64 a0_0, .int .i64 a0_1, .slice none 0 0]) ?_ 2 _ rfl; (with_reducible repeat (first | refine blk_drewN ?_ _ | refine blk_drew ?_ | refine blk_alloc ?_ _)); refine blk_put (cs := #[.int .i64 a0_0, .int .i64 0, .slice none 0 0]) ?_ 1 _ rfl; (with_reducible repeat (first | refine blk_drewN ?_ _ | refine blk_drew ?_ | refine blk_alloc ?_ _)); refine blk_put (cs := #[.int .i64 0, .int .i64 0, .slice none 0 0]) ?_ 0 _ rfl; (with_reducible repeat (first | refine blk_drewN ?_ _ | refine blk_drew ?_ | refine blk_alloc ?_ _)); exact BK326.out⟩, ⟨dL3_ HB GE318 GE319 GE326⟩⟩
         case round =>
          clear H'
          try clear c1
          try clear c3
          try clear c6
          try clear c6b0
          try clear c6b1
          try clear c13
          try clear c14
          try clear c15
          try clear c18
          try clear c18b0
          try clear c19
          try clear c20
          try clear c30
          try clear hcz11_0
          try clear hcz11_1
          try clear hcz11_2
          try clear hfz11_0
          try clear hfz11_1
          try clear hfz11_2
          obtain ⟨x15_3, x64_3, x320000_3, x320001_3, x327000_3, x327001_3, x327002_3, u327002, rfl, rfl, HA, HK3, HO_327002, BK318, BK319, BK326, HB⟩ := hrel
          cases gk with
          | zero => exact absurd HA.out (by simp [hinterlandref02_Level.l1])
          | succ k3 =>
           have H := HA.out
           clear HA
           simp only [hinterlandref02_Level.l1] at H
           by_cases c40 : x64_3 < (l1.length : Int)
           ·rw [if_pos c40] at H
            have c40b0 : decide (x64_3 < (l1.length : Int)) = true := decide_eq_true c40
            clear c40
            by_cases c41 : 0 ≤ x64_3
            ·rw [if_pos c41] at H
             have c41b0 : decide (0 ≤ x64_3) = true := decide_eq_true c41
             clear c41
             by_cases c42 : x64_3 < (l1.length : Int)
             ·rw [if_pos c42] at H
              have c42b0 : decide (x64_3 < (l1.length : Int)) = true := decide_eq_true c42
              clear c42
              replace H := Option.bind_eq_some_iff.mp H
              obtain ⟨⟨t328, t329, t330, t331⟩, A430, H⟩ := H
              replace H : (hinterlandref02_Level.l2 k3 a2 l3 x15_3 l1 (l1.length : Int) x64_3 0 a0_0 a0_1 l0_2 x327000_3 x327001_3 x327002_3 t328 t329 t330 t331) = some (r1, r2, r3, r4, r5) := H
              have A43 := Aside0.mk A430
              clear A430
              have H' := Aside0.mk H
              clear H
              have p327 : 0 ≤ (x64_3 : Int) := of_decide_eq_true tW_
              have q327 : x64_3 < (l1.length : Int) := of_decide_eq_true tW_
              obtain ⟨ad327, e327, hx327_0⟩ := Kd.at_int HR1.out x64_3 p327 q327
              cases e327
              replace hx327_0 := bc_ HB hx327_0
              replace p327 := eq_true p327
              replace q327 := eq_true q327
              have hnb44 := NB318_319.out
              have hnc44 := NB319_318.out
              have hnb45 := NB318_326.out
              have hnc45 := NB326_318.out
              obtain ⟨hcz46_0, hcz46_1, hcz46_2, hfz46_0, hfz46_1, hfz46_2⟩ := cs3_ BK318.out
              go_wp2_with (first | ((with_reducible refine gate_callee (f := 49) rfl ?_); refine goesL_ (some 70) rfl rfl Try.func49 (by kernel_rfl) rfl #[.agg #[.int .i64 a0_0, .int .i64 a0_1, .slice A0_2 l0_2.length c0_2], .int .i64 (rd l1 x64_3)] rfl tA_ ?_; (with_reducible refine (hinterlandref02_Places.calls a0_0 a0_1 _ _ l0_2 (rd l1 x64_3) t328 t329 t330 t331 _ ?side1 ?side2 A43.out).mono ?_); (case side1 => exact dC_ HR0_2 HB); (case side2 => exact HC0_2.out); rintro e w47 ⟨rfl, hb⟩; refine ⟨_, rfl, ?_⟩; replace HO_327002 := Aside0.mk (Kd.R_below (dR_ HO_327002) hb); replace BK318 := Aside0.mk (blk_below (g := gb318) (o := .cells #[.int .i64 a0_0, .int .i64 a0_1, .slice A0_2 l0_2.length c0_2] 24 (0, 0)) (dB_ BK318) hb); replace BK319 := Aside0.mk (blk_below (g := gb319) (o := .cells #[.int .i64 x320000_3, .int .i64 x320001_3, .slice none 0 0] 24 (0, 0)) (dB_ BK319) hb); replace BK326 := Aside0.mk (blk_below (g := gb326) (o := .cells #[.int .i64 x327000_3, .int .i64 x327001_3, u327002] 24 (0, 0)) (dB_ BK326) hb); replace HB := Aside0.mk (below_step (dL3_ HB GE318 GE319 GE326) hb)))
              go_loopg [15, 71] k3 (fun kq v15 v71 w' => ∃ (x15_4 : Int) (x71_4 : Int) (x320000_4 : Int) (x320001_4 : Int) (x327000_4 : Int) (x327001_4 : Int) (x327002_4 : List Int) (u327002 : Value), v15 = .int .i64 x15_4 ∧ v71 = .int .i64 x71_4 ∧ Aside0 (hinterlandref02_Level.l2 kq a2 l3 x15_4 l1 (l1.length : Int) x64_3 x71_4 a0_0 a0_1 l0_2 x327000_4 x327001_4 x327002_4 t328 t329 t330 t331 = some (r1, r2, r3, r4, r5)) ∧ Aside0 (kq ≤ k3) ∧ Aside0 (Kd.R (Kd.int .i64) 3 w' w.heap.size (fun _ => True) u327002 x327002_4) ∧ Aside0 (w'.heap[gb318]? = some (.cells #[.int .i64 a0_0, .int .i64 a0_1, (.slice A0_2 l0_2.length c0_2)] 24 (0, 0))) ∧ Aside0 (w'.heap[gb319]? = some (.cells #[.int .i64 x320000_4, .int .i64 x320001_4, (.slice none 0 0)] 24 (0, 0))) ∧ Aside0 (w'.heap[gb326]? = some (.cells #[.int .i64 x327000_4, .int .i64 x327001_4, u327002] 24 (0, 0))) ∧ Aside0 (Below w.heap.size w w'))
              case atStart => exact ⟨(x15_3), (0), (x320000_3), (x320001_3), (x327000_3), (x327001_3), (x327002_3), (u327002), tS_, tS_, H', ⟨Nat.le_refl _⟩, ⟨dR_ HO_327002⟩, ⟨dB_ BK318⟩, ⟨dB_ BK319⟩, ⟨dB_ BK326⟩, ⟨dL3_ HB GE318 GE319 GE326⟩⟩
              case round =>
               clear H'
               try clear c1
               try clear c3
               try clear c6
               try clear c6b0
               try clear c6b1
               try clear c13
               try clear c14
               try clear c15
               try clear c18
               try clear c18b0
               try clear c19
               try clear c20
               try clear c30
               try clear c40
               try clear c40b0
               try clear c41
               try clear c41b0
               try clear c42
               try clear c42b0
               try clear hcz11_0
               try clear hcz11_1
               try clear hcz11_2
               try clear hcz46_0
               try clear hcz46_1
               try clear hcz46_2
               try clear hfz11_0
               try clear hfz11_1
               try clear hfz11_2
               try clear hfz46_0
               try clear hfz46_1
               try clear hfz46_2
               try clear hx327_0
               try clear p327
               try clear q327
               obtain ⟨x15_4, x71_4, x320000_4, x320001_4, x327000_4, x327001_4, x327002_4, u327002, rfl, rfl, HA, HK4, HO_327002, BK318, BK319, BK326, HB⟩ := hrel
               cases gk with
               | zero => exact absurd HA.out (by simp [hinterlandref02_Level.l2])
               | succ k4 =>
                have H := HA.out
                clear HA
                simp only [hinterlandref02_Level.l2] at H
                by_cases c48 : x71_4 < 4
                ·rw [if_pos c48] at H
                 have c48b0 : decide (x71_4 < 4) = true := decide_eq_true c48
                 clear c48
                 by_cases c49 : 0 ≤ x71_4
                 ·rw [if_pos c49] at H
                  have c49b0 : decide (0 ≤ x71_4) = true := decide_eq_true c49
                  clear c49
                  have H' := Aside0.mk H
                  clear H
                  have pr50 : 0 ≤ (x71_4 : Int) := of_decide_eq_true tW_
                  have qr50 : (x71_4 : Int) < 4 := of_decide_eq_true tW_
                  have har50 : ∀ w_ : World, (Instr.index 66 (.agg #[.int .i64 t328, .int .i64 t329, .int .i64 t330, .int .i64 t331]) (.int .i64 x71_4)).run Try.prog w_ = .ok (.int .i64 (rd [t328, t329, t330, t331] x71_4)) w_ := fun w_ => run_arr Try.underlying66 Try.underlying3 rfl (by kernel_rfl) .i64 [t328, t329, t330, t331] rfl x71_4 pr50 qr50 w_
                  go_wp2
                  go_loopg [15] k4 (fun kq v15 w' => ∃ (x15_5 : Int) (x320000_5 : Int) (x320001_5 : Int) (x327000_5 : Int) (x327001_5 : Int) (x327002_5 : List Int) (u327002 : Value), v15 = .int .i64 x15_5 ∧ Aside0 (hinterlandref02_Level.l3 kq a2 l3 x15_5 (rd [t328, t329, t330, t331] x71_4) l1 (l1.length : Int) x64_3 x71_4 a0_0 a0_1 l0_2 x327000_5 x327001_5 x327002_5 t328 t329 t330 t331 = some (r1, r2, r3, r4, r5)) ∧ Aside0 (kq ≤ k4) ∧ Aside0 (Kd.R (Kd.int .i64) 3 w' w.heap.size (fun _ => True) u327002 x327002_5) ∧ Aside0 (w'.heap[gb318]? = some (.cells #[.int .i64 a0_0, .int .i64 a0_1, (.slice A0_2 l0_2.length c0_2)] 24 (0, 0))) ∧ Aside0 (w'.heap[gb319]? = some (.cells #[.int .i64 x320000_5, .int .i64 x320001_5, (.slice none 0 0)] 24 (0, 0))) ∧ Aside0 (w'.heap[gb326]? = some (.cells #[.int .i64 x327000_5, .int .i64 x327001_5, u327002] 24 (0, 0))) ∧ Aside0 (Below w.heap.size w w'))
                  case atStart => exact ⟨(x15_4), (x320000_4), (x320001_4), (x327000_4), (x327001_4), (x327002_4), (u327002), tS_, H', ⟨Nat.le_refl _⟩, ⟨dR_ HO_327002⟩, ⟨dB_ BK318⟩, ⟨dB_ BK319⟩, ⟨dB_ BK326⟩, ⟨dL3_ HB GE318 GE319 GE326⟩⟩
                  case round =>
                   clear H'
                   try clear c1
                   try clear c3
                   try clear c6
                   try clear c6b0
                   try clear c6b1
                   try clear c13
                   try clear c14
                   try clear c15
                   try clear c18
                   try clear c18b0
                   try clear c19
                   try clear c20
                   try clear c30
                   try clear c40
                   try clear c40b0
                   try clear c41
                   try clear c41b0
                   try clear c42
                   try clear c42b0
                   try clear c48
                   try clear c48b0
                   try clear c49
                   try clear c49b0
                   try clear hcz11_0
                   try clear hcz11_1
                   try clear hcz11_2
                   try clear hcz46_0
                   try clear hcz46_1
                   try clear hcz46_2
                   try clear hfz11_0
                   try clear hfz11_1
                   try clear hfz11_2
                   try clear hfz46_0
                   try clear hfz46_1
                   try clear hfz46_2
                   try clear hx327_0
                   try clear p327
                   try clear q327
                   obtain ⟨x15_5, x320000_5, x320001_5, x327000_5, x327001_5, x327002_5, u327002, rfl, HA, HK5, HO_327002, BK318, BK319, BK326, HB⟩ := hrel
                   cases gk with
                   | zero => exact absurd HA.out (by simp [hinterlandref02_Level.l3])
                   | succ k5 =>
                    have H := HA.out
                    clear HA
                    simp only [hinterlandref02_Level.l3] at H
                    by_cases c51 : 0 ≤ (rd [t328, t329, t330, t331] x71_4)
                    ·rw [if_pos c51] at H
                     have c51b0 : decide (0 ≤ (rd [t328, t329, t330, t331] x71_4)) = true := decide_eq_true c51
                     clear c51
                     by_cases c52 : (rd [t328, t329, t330, t331] x71_4) < (x327002_5.length : Int)
                     ·rw [if_pos c52] at H
                      have c52b0 : decide ((rd [t328, t329, t330, t331] x71_4) < (x327002_5.length : Int)) = true := decide_eq_true c52
                      clear c52
                      by_cases c53 : (rd x327002_5 (rd [t328, t329, t330, t331] x71_4)) = a2
                      ·rw [if_pos c53] at H
                       have c53b0 : ((rd x327002_5 (rd [t328, t329, t330, t331] x71_4)) == a2) = true := beq_iff_eq.mpr c53
                       have c53b1 : ((rd x327002_5 (rd [t328, t329, t330, t331] x71_4)) != a2) = false := bne_eq_false_iff_eq.mpr c53
                       clear c53
                       have H' := Aside0.mk H
                       clear H
                       have hnb54 := NB326_318.out
                       have hnc54 := NB318_326.out
                       have hnb55 := NB326_319.out
                       have hnc55 := NB319_326.out
                       obtain ⟨hcz56_0, hcz56_1, hcz56_2, hfz56_0, hfz56_1, hfz56_2⟩ := cs3_ BK326.out
                       obtain ⟨Ao57, co57, eo57⟩ := Kd.R_slice HO_327002.out
                       subst eo57
                       have p332 : 0 ≤ ((rd [t328, t329, t330, t331] x71_4) : Int) := of_decide_eq_true tW_
                       have q332 : (rd [t328, t329, t330, t331] x71_4) < (x327002_5.length : Int) := of_decide_eq_true tW_
                       obtain ⟨ad332, e332, hx332_0⟩ := Kd.at_int (Kd.R_reads' HO_327002.out).2.2 (rd [t328, t329, t330, t331] x71_4) p332 q332
                       cases e332
                       replace p332 := eq_true p332
                       replace q332 := eq_true q332
                       go_wp2
                       go_roundg k5
                       case measure => have := HJ6.out; have := HK2.out; have := HK3.out; have := HK4.out; have := HK5.out; omega
                       case rel => exact ⟨(x15_5), (wrap64 (x71_4 + 1)), (x320000_5), (x320001_5), (x327000_5), (x327001_5), (x327002_5), (.slice (some ad332) x327002_5.length co57), tS_, tS_, H', ⟨by have := HJ6.out; have := HK2.out; have := HK3.out; have := HK4.out; have := HK5.out; omega⟩, ⟨dR_ HO_327002⟩, ⟨dB_ BK318⟩, ⟨dB_ BK319⟩, ⟨dB_ BK326⟩, ⟨dL3_ HB GE318 GE319 GE326⟩⟩
                      ·rw [if_neg c53] at H
                       have c53b0 : ((rd x327002_5 (rd [t328, t329, t330, t331] x71_4)) == a2) = false := beq_eq_false_iff_ne.mpr c53
                       have c53b1 : ((rd x327002_5 (rd [t328, t329, t330, t331] x71_4)) != a2) = true := bne_iff_ne.mpr c53
                       by_cases c58 : (wrap64 (a0_0 + 1)) = 0
                       ·rw [if_pos c58] at H
                        exact absurd H (by simp)
                       ·rw [if_neg c58] at H
                        have c58b0 : ((wrap64 (a0_0 + 1)) == 0) = false := beq_eq_false_iff_ne.mpr c58
                        have c58b1 : ((wrap64 (a0_0 + 1)) != 0) = true := bne_iff_ne.mpr c58
                        replace H := Option.bind_eq_some_iff.mp H
                        obtain ⟨⟨t334, t335, t336, t339, t342, t343⟩, A590, H⟩ := H
                        replace H : (if t343 = 0 then (hinterlandref02_Level.l3 k5 a2 l3 (wrap64 (x15_5 + t342)) (rd [t328, t329, t330, t331] x71_4) l1 (l1.length : Int) x64_3 x71_4 a0_0 a0_1 l0_2 t334 t335 t336 t328 t329 t330 t331) else (some (0, 0, ([] : List Int), 0, t343))) = some (r1, r2, r3, r4, r5) := H
                        have A59 := Aside0.mk A590
                        clear A590
                        by_cases c60 : t343 = 0
                        ·rw [if_pos c60] at H
                         have c60b0 : (t343 == 0) = true := beq_iff_eq.mpr c60
                         have c60b1 : (t343 != 0) = false := bne_eq_false_iff_eq.mpr c60
                         clear c60
                         have H' := Aside0.mk H
                         clear H
                         have hnb61 := NB326_318.out
                         have hnc61 := NB318_326.out
                         have hnb62 := NB326_319.out
                         have hnc62 := NB319_326.out
                         obtain ⟨hcz63_0, hcz63_1, hcz63_2, hfz63_0, hfz63_1, hfz63_2⟩ := cs3_ BK326.out
                         obtain ⟨Ao64, co64, eo64⟩ := Kd.R_slice HO_327002.out
                         subst eo64
                         have p332 : 0 ≤ ((rd [t328, t329, t330, t331] x71_4) : Int) := of_decide_eq_true tW_
                         have q332 : (rd [t328, t329, t330, t331] x71_4) < (x327002_5.length : Int) := of_decide_eq_true tW_
                         obtain ⟨ad332, e332, hx332_0⟩ := Kd.at_int (Kd.R_reads' HO_327002.out).2.2 (rd [t328, t329, t330, t331] x71_4) p332 q332
                         cases e332
                         replace p332 := eq_true p332
                         replace q332 := eq_true q332
                         try go_wp2
                         replace HO_327002 := Aside0.mk (Kd.R_drew HO_327002.out)
                         replace BK318 := Aside0.mk (blk_drew BK318.out)
                         replace BK319 := Aside0.mk (blk_drew BK319.out)
                         replace BK326 := Aside0.mk (blk_drew BK326.out)
                         replace HB := Aside0.mk (below_drew1 HB.out)
                         have p333 : 0 ≤ ((rd [t328, t329, t330, t331] x71_4) : Int) := of_decide_eq_true tW_
                         have q333 : (rd [t328, t329, t330, t331] x71_4) < (x327002_5.length : Int) := of_decide_eq_true tW_
                         obtain ⟨ad333, e333, hx333_0⟩ := Kd.at_int (Kd.R_reads' HO_327002.out).2.2 (rd [t328, t329, t330, t331] x71_4) p333 q333
                         obtain rfl : ad332 = ad333 := (by injection e333)
                         replace p333 := eq_true p333
                         replace q333 := eq_true q333
                         refine start_ (n := 30) (S := fun w' => w'.cell? ⟨gb326, 0, none⟩ = some (.int .i64 x327000_5) ∧ w'.cell? ⟨gb326, 1, none⟩ = some (.int .i64 x327001_5) ∧ w'.cell? ⟨gb326, 2, none⟩ = some (.slice (some ad332) x327002_5.length co64) ∧ w'.cell? ⟨gb318, 0, none⟩ = some (.int .i64 a0_0) ∧ w'.cell? ⟨gb318, 1, none⟩ = some (.int .i64 a0_1) ∧ w'.cell? ⟨gb318, 2, none⟩ = some (.slice A0_2 l0_2.length c0_2) ∧ w'.cell? (ad332.add ((rd [t328, t329, t330, t331] x71_4)).toNat) = some (.int .i64 (rd x327002_5 (rd [t328, t329, t330, t331] x71_4)))) (ds := []) #[false, false, false, false, false, false, false, false, false, false, false, false, false, false, false, false, false, false, false, false, false, false, false, false, false, false, false, false, false, false] (by kernel_rfl) rfl rfl ⟨(blk_cell BK326.out 0).trans rfl, (blk_cell BK326.out 1).trans rfl, (blk_cell BK326.out 2).trans rfl, (blk_cell BK318.out 0).trans rfl, (blk_cell BK318.out 1).trans rfl, (blk_cell BK318.out 2).trans rfl, hx333_0⟩ (fun hHeld => ?_); refine with_tabW hinterlandref02_Level.tab21 hinterlandref02_Level.bits21 (fun HT_ HW_ => ?_)
                         generalize wr.drew = w65 at HO_327002 BK318 BK319 BK326 HB hx333_0 hHeld ⊢
                         refine pure_ (i := 1) (N := some 83) (v := ?_) (a' := ?_) #[false, true, false, false, false, false, false, false, false, false, false, false, false, false, false, false, false, false, false, false, false, false, false, false, false, false, false, false, false, false] rfl rfl (any_of HT_.out (by kernel_rfl)) (fun _ _ _ h => h) (Or.inl ⟨by rfl, ?_⟩) ?_ ?_
                         rotate_left
                         ·intro w'
                          go_simp
                          with_reducible rfl
                         rotate_left
                         ·simp only [Act.put, sI_, s0_, sS_, i64_w, i32_w]
                          rfl
                         refine pure_ (i := 2) (N := some 84) (v := ?_) (a' := ?_) #[false, true, true, false, false, false, false, false, false, false, false, false, false, false, false, false, false, false, false, false, false, false, false, false, false, false, false, false, false, false] rfl rfl (any_of HT_.out (by kernel_rfl)) (fun _ _ _ h => h) (Or.inl ⟨by rfl, ?_⟩) ?_ ?_
                         rotate_left
                         ·intro w'
                          go_simp
                          with_reducible rfl
                         rotate_left
                         ·simp only [Act.put, sI_, s0_, sS_, i64_w, i32_w]
                          rfl
                         refine pure_ (i := 6) (N := some 88) (v := ?_) (a' := ?_) #[false, true, true, false, false, false, true, false, false, false, false, false, false, false, false, false, false, false, false, false, false, false, false, false, false, false, false, false, false, false] rfl rfl (any_of HT_.out (by kernel_rfl)) (fun _ _ _ h => h) (Or.inl ⟨by rfl, ?_⟩) ?_ ?_
                         rotate_left
                         ·intro w'
                          go_simp
                          with_reducible rfl
                         rotate_left
                         ·simp only [Act.put, sI_, s0_, sS_, i64_w, i32_w]
                          rfl
                         refine pure_ (i := 7) (N := some 89) (v := ?_) (a' := ?_) #[false, true, true, false, false, false, true, true, false, false, false, false, false, false, false, false, false, false, false, false, false, false, false, false, false, false, false, false, false, false] rfl rfl (any_of HT_.out (by kernel_rfl)) (fun _ _ _ h => h) (Or.inl ⟨by rfl, ?_⟩) ?_ ?_
                         rotate_left
                         ·intro w'
                          go_simp
                          with_reducible rfl
                         rotate_left
                         ·simp only [Act.put, sI_, s0_, sS_, i64_w, i32_w]
                          rfl
                         refine pure_ (i := 11) (N := some 93) (v := ?_) (a' := ?_) #[false, true, true, false, false, false, true, true, false, false, false, true, false, false, false, false, false, false, false, false, false, false, false, false, false, false, false, false, false, false] rfl rfl (any_of HT_.out (by kernel_rfl)) (fun _ _ _ h => h) (Or.inl ⟨by rfl, ?_⟩) ?_ ?_
                         rotate_left
                         ·intro w'
                          go_simp
                          with_reducible rfl
                         rotate_left
                         ·simp only [Act.put, sI_, s0_, sS_, i64_w, i32_w]
                          rfl
                         refine pure_ (i := 13) (N := some 95) (v := ?_) (a' := ?_) #[false, true, true, false, false, false, true, true, false, false, false, true, false, true, false, false, false, false, false, false, false, false, false, false, false, false, false, false, false, false] rfl rfl (any_of HT_.out (by kernel_rfl)) (fun _ _ _ h => h) (Or.inl ⟨by rfl, ?_⟩) ?_ ?_
                         rotate_left
                         ·intro w'
                          go_simp
                          with_reducible rfl
                         rotate_left
                         ·simp only [Act.put, sI_, s0_, sS_, i64_w, i32_w]
                          rfl
                         refine pure_ (i := 16) (N := some 98) (v := ?_) (a' := ?_) #[false, true, true, false, false, false, true, true, false, false, false, true, false, true, false, false, true, false, false, false, false, false, false, false, false, false, false, false, false, false] rfl rfl (any_of HT_.out (by kernel_rfl)) (fun _ _ _ h => h) (Or.inl ⟨by rfl, ?_⟩) ?_ ?_
                         rotate_left
                         ·intro w'
                          go_simp
                          with_reducible rfl
                         rotate_left
                         ·simp only [Act.put, sI_, s0_, sS_, i64_w, i32_w]
                          rfl
                         refine pure_ (i := 18) (N := some 100) (v := ?_) (a' := ?_) #[false, true, true, false, false, false, true, true, false, false, false, true, false, true, false, false, true, false, true, false, false, false, false, false, false, false, false, false, false, false] rfl rfl (any_of HT_.out (by kernel_rfl)) (fun _ _ _ h => h) (Or.inl ⟨by rfl, ?_⟩) ?_ ?_
                         rotate_left
                         ·intro w'
                          go_simp
                          with_reducible rfl
                         rotate_left
                         ·simp only [Act.put, sI_, s0_, sS_, i64_w, i32_w]
                          rfl
                         refine take_ (i := 0) (N := some 82) (v := ?_) (a' := ?_) #[true, true, true, false, false, false, true, true, false, false, false, true, false, true, false, false, true, false, true, false, false, false, false, false, false, false, false, false, false, false] rfl rfl (take_ofW HT_.out HW_.out (by kernel_rfl)) (fun _ _ _ h => h) (Or.inl ⟨by rfl, ?_⟩) hHeld ?_ ?_
                         rotate_left
                         ·rintro w' ⟨s0, s1, s2, s3, s4, s5, s6⟩
                          go_simp
                          with_reducible rfl
                         rotate_left
                         ·simp only [Act.put, sI_, s0_, sS_, i64_w, i32_w]
                          rfl
                         refine take_ (i := 3) (N := some 85) (v := ?_) (a' := ?_) #[true, true, true, true, false, false, true, true, false, false, false, true, false, true, false, false, true, false, true, false, false, false, false, false, false, false, false, false, false, false] rfl rfl (take_ofW HT_.out HW_.out (by kernel_rfl)) (fun _ _ _ h => h) (Or.inl ⟨by rfl, ?_⟩) hHeld ?_ ?_
                         rotate_left
                         ·rintro w' ⟨s0, s1, s2, s3, s4, s5, s6⟩
                          go_simp
                          with_reducible rfl
                         rotate_left
                         ·simp only [Act.put, sI_, s0_, sS_, i64_w, i32_w]
                          rfl
                         refine pure_ (i := 4) (N := some 86) (v := ?_) (a' := ?_) #[true, true, true, true, true, false, true, true, false, false, false, true, false, true, false, false, true, false, true, false, false, false, false, false, false, false, false, false, false, false] rfl rfl (any_of HT_.out (by kernel_rfl)) (fun _ _ _ h => h) (Or.inl ⟨by rfl, ?_⟩) ?_ ?_
                         rotate_left
                         ·intro w'
                          go_simp
                          with_reducible rfl
                         rotate_left
                         ·simp only [Act.put, sI_, s0_, sS_, i64_w, i32_w]
                          rfl
                         refine pure_ (i := 5) (N := some 87) (v := ?_) (a' := ?_) #[true, true, true, true, true, true, true, true, false, false, false, true, false, true, false, false, true, false, true, false, false, false, false, false, false, false, false, false, false, false] rfl rfl (any_of HT_.out (by kernel_rfl)) (fun _ _ _ h => h) (Or.inl ⟨by rfl, ?_⟩) ?_ ?_
                         rotate_left
                         ·intro w'
                          go_simp
                          with_reducible rfl
                         rotate_left
                         ·simp only [Act.put, sI_, s0_, sS_, i64_w, i32_w]
                          rfl
                         refine take_ (i := 8) (N := some 90) (v := ?_) (a' := ?_) #[true, true, true, true, true, true, true, true, true, false, false, true, false, true, false, false, true, false, true, false, false, false, false, false, false, false, false, false, false, false] rfl rfl (take_ofW HT_.out HW_.out (by kernel_rfl)) (fun _ _ _ h => h) (Or.inl ⟨by rfl, ?_⟩) hHeld ?_ ?_
                         rotate_left
                         ·rintro w' ⟨s0, s1, s2, s3, s4, s5, s6⟩
                          go_simp
                          with_reducible rfl
                         rotate_left
                         ·simp only [Act.put, sI_, s0_, sS_, i64_w, i32_w]
                          rfl
                         refine pure_ (i := 9) (N := some 91) (v := ?_) (a' := ?_) #[true, true, true, true, true, true, true, true, true, true, false, true, false, true, false, false, true, false, true, false, false, false, false, false, false, false, false, false, false, false] rfl rfl (any_of HT_.out (by kernel_rfl)) (fun _ _ _ h => h) (Or.inl ⟨by rfl, ?_⟩) ?_ ?_
                         rotate_left
                         ·intro w'
                          go_simp
                          with_reducible rfl
                         rotate_left
                         ·simp only [Act.put, sI_, s0_, sS_, i64_w, i32_w]
                          rfl
                         refine pure_ (i := 10) (N := some 92) (v := ?_) (a' := ?_) #[true, true, true, true, true, true, true, true, true, true, true, true, false, true, false, false, true, false, true, false, false, false, false, false, false, false, false, false, false, false] rfl rfl (any_of HT_.out (by kernel_rfl)) (fun _ _ _ h => h) (Or.inl ⟨by rfl, ?_⟩) ?_ ?_
                         rotate_left
                         ·intro w'
                          go_simp
                          with_reducible rfl
                         rotate_left
                         ·simp only [Act.put, sI_, s0_, sS_, i64_w, i32_w]
                          rfl
                         refine take_ (i := 12) (N := some 94) (v := ?_) (a' := ?_) #[true, true, true, true, true, true, true, true, true, true, true, true, true, true, false, false, true, false, true, false, false, false, false, false, false, false, false, false, false, false] rfl rfl (take_ofW HT_.out HW_.out (by kernel_rfl)) (fun _ _ _ h => h) (Or.inl ⟨by rfl, ?_⟩) hHeld ?_ ?_
                         rotate_left
                         ·rintro w' ⟨s0, s1, s2, s3, s4, s5, s6⟩
                          go_simp
                          with_reducible rfl
                         rotate_left
                         ·simp only [Act.put, sI_, s0_, sS_, i64_w, i32_w]
                          rfl
                         refine pure_ (i := 14) (N := some 96) (v := ?_) (a' := ?_) #[true, true, true, true, true, true, true, true, true, true, true, true, true, true, true, false, true, false, true, false, false, false, false, false, false, false, false, false, false, false] rfl rfl (any_of HT_.out (by kernel_rfl)) (fun _ _ _ h => h) (Or.inl ⟨by rfl, ?_⟩) ?_ ?_
                         rotate_left
                         ·intro w'
                          go_simp
                          with_reducible rfl
                         rotate_left
                         ·simp only [Act.put, sI_, s0_, sS_, i64_w, i32_w]
                          rfl
                         refine take_ (i := 15) (N := some 97) (v := ?_) (a' := ?_) #[true, true, true, true, true, true, true, true, true, true, true, true, true, true, true, true, true, false, true, false, false, false, false, false, false, false, false, false, false, false] rfl rfl (take_ofW HT_.out HW_.out (by kernel_rfl)) (fun _ _ _ h => h) (Or.inl ⟨by rfl, ?_⟩) hHeld ?_ ?_
                         rotate_left
                         ·rintro w' ⟨s0, s1, s2, s3, s4, s5, s6⟩
                          go_simp
                          with_reducible rfl
                         rotate_left
                         ·simp only [Act.put, sI_, s0_, sS_, i64_w, i32_w]
                          rfl
                         refine pure_ (i := 17) (N := some 99) (v := ?_) (a' := ?_) #[true, true, true, true, true, true, true, true, true, true, true, true, true, true, true, true, true, true, true, false, false, false, false, false, false, false, false, false, false, false] rfl rfl (any_of HT_.out (by kernel_rfl)) (fun _ _ _ h => h) (Or.inl ⟨by rfl, ?_⟩) ?_ ?_
                         rotate_left
                         ·intro w'
                          go_simp
                          with_reducible rfl
                         rotate_left
                         ·simp only [Act.put, sI_, s0_, sS_, i64_w, i32_w]
                          rfl
                         refine join_ (σ := Value × Value × Nat) 4 #[true, true, true, true, true, true, true, true, true, true, true, true, true, true, true, true, true, true, true, true, true, true, true, true, true, true, false, false, false, false] (fun s_ => [(101, .tuple #[.agg #[.int .i64 t334, .int .i64 t335, s_.1], s_.2.1, .int .i64 t342, .int .i64 t343]), (20, .pointer (some ⟨s_.2.2, 0, none⟩)), (81, .tuple #[.agg #[.int .i64 t334, .int .i64 t335, s_.1], s_.2.1, .int .i64 t342, .int .i64 t343]), (102, .agg #[.int .i64 t334, .int .i64 t335, s_.1]), (103, s_.2.1), (104, .int .i64 t342), (105, .int .i64 t343)]) (fun s_ w' => (w'.cell? ⟨gb326, 0, none⟩ = some (.int .i64 x327000_5) ∧ w'.cell? ⟨gb326, 1, none⟩ = some (.int .i64 x327001_5) ∧ w'.cell? ⟨gb326, 2, none⟩ = some (.slice (some ad332) x327002_5.length co64) ∧ w'.cell? ⟨gb318, 0, none⟩ = some (.int .i64 a0_0) ∧ w'.cell? ⟨gb318, 1, none⟩ = some (.int .i64 a0_1) ∧ w'.cell? ⟨gb318, 2, none⟩ = some (.slice A0_2 l0_2.length c0_2) ∧ w'.cell? (ad332.add ((rd [t328, t329, t330, t331] x71_4)).toNat) = some (.int .i64 (rd x327002_5 (rd [t328, t329, t330, t331] x71_4)))) ∧ (Kd.R (Kd.int .i64) 3 w' w.heap.size (fun k_ => some k_ ≠ (.slice (some ad332) x327002_5.length co64 : Value).ownBlock) s_.1 t336) ∧ (Kd.R k36 36 w' w.heap.size (fun _ => True) s_.2.1 t339) ∧ (Kd.R (Kd.int .i64) 3 w' w.heap.size (fun k_ => some k_ ≠ (s_.1 : Value).ownBlock) (.slice (some ad332) x327002_5.length co64) x327002_5) ∧ (w'.heap[gb318]? = some (.cells #[.int .i64 a0_0, .int .i64 a0_1, .slice A0_2 l0_2.length c0_2] 24 (0, 0))) ∧ (w'.heap[gb319]? = some (.cells #[.int .i64 x320000_5, .int .i64 x320001_5, .slice none 0 0] 24 (0, 0))) ∧ (w'.heap[gb326]? = some (.cells #[.int .i64 x327000_5, .int .i64 x327001_5, .slice (some ad332) x327002_5.length co64] 24 (0, 0))) ∧ (w'.heap[s_.2.2]? = some (.cells #[.int .i64 0, .int .i64 0, .slice none 0 0] 24 (0, 0))) ∧ (w.heap.size ≤ s_.2.2) ∧ (w.heap.size ≤ s_.2.2) ∧ (gb318 ≠ s_.2.2) ∧ (s_.2.2 ≠ gb318) ∧ (gb319 ≠ s_.2.2) ∧ (s_.2.2 ≠ gb319) ∧ (gb326 ≠ s_.2.2) ∧ (s_.2.2 ≠ gb326) ∧ (Below w.heap.size w w')) ?_ ?_
                         rotate_left
                         ·intro hCont
                          refine two_ (i := 19) (j := 25) (Ni := some 101) (Nj := some 20) #[true, true, true, true, true, true, true, true, true, true, true, true, true, true, true, true, true, true, true, true, false, false, false, false, false, false, false, false, false, false] #[true, true, true, true, true, true, true, true, true, true, true, true, true, true, true, true, true, true, true, false, false, false, false, false, false, true, false, false, false, false] rfl rfl rfl rfl (two_of HT_.out (by kernel_rfl)) (by decide) (by decide) (fun K hK => ?_) (fun K hK => ?_)
                          ·skip
                           refine goes_ Try.func20 (by kernel_rfl) rfl #[.agg #[.int .i64 x327000_5, .int .i64 x327001_5, .slice (some ad332) x327002_5.length co64], .int .i64 (Int.tmod (rd [t328, t329, t330, t331] x71_4) (wrap64 (a0_0 + 1))), .int .i64 (wrap64 (Int.tdiv (rd [t328, t329, t330, t331] x71_4) (wrap64 (a0_0 + 1)))), .bool (decide ((rd x327002_5 (rd [t328, t329, t330, t331] x71_4)) < a2)), .slice A3 l3.length c3] (by rfl) rfl rfl tA_ ?_
                           with_reducible refine (hinterlandref02_Shift.calls k5 x327000_5 x327001_5 _ _ x327002_5 (Int.tmod (rd [t328, t329, t330, t331] x71_4) (wrap64 (a0_0 + 1))) (wrap64 (Int.tdiv (rd [t328, t329, t330, t331] x71_4) (wrap64 (a0_0 + 1)))) (decide ((rd x327002_5 (rd [t328, t329, t330, t331] x71_4)) < a2)) _ _ l3 t334 t335 t336 t339 t342 t343 _ ?side1 ?side2 ?side3 ?side4 A59.out).mono ?_
                           (case side1 => repeat (first | exact (Kd.R_reads' HO_327002.out).2.2 | (with_reducible refine Kd.C_alloc ?_ _) | (with_reducible refine Kd.C_drewN ?_ _) | (with_reducible refine Kd.C_drew ?_)))
                           (case side2 => exact (Kd.R_reads' HO_327002.out).2.1)
                           (case side3 => exact dC_ HR3 HB)
                           (case side4 => exact HC3.out)
                           rintro e w66 ⟨v337, v340, rfl, ho0, ho1, hb⟩
                           have HS6_ := (hb.cell (World.block_lt_of_cell? _ _ (hHeld.2.2.2.2.2.2))).trans (hHeld.2.2.2.2.2.2)
                           refine ⟨_, rfl, ?_⟩
                           have HO338 := Aside0.mk (Kd.R_lower (Kd.R_new' ho0 (Kd.R_lt (dR_ HO_327002))) (below_size (dL3_ HB GE318 GE319 GE326)))
                           replace HO_327002 := Aside0.mk (Kd.R_elder' (dR_ HO_327002) (Kd.R_base ho0) hb)
                           have HO341 := Aside0.mk (Kd.R_lower ho1 (below_size (dL3_ HB GE318 GE319 GE326)))
                           replace BK318 := Aside0.mk (blk_below (g := gb318) (o := .cells #[.int .i64 a0_0, .int .i64 a0_1, .slice A0_2 l0_2.length c0_2] 24 (0, 0)) (dB_ BK318) hb)
                           replace BK319 := Aside0.mk (blk_below (g := gb319) (o := .cells #[.int .i64 x320000_5, .int .i64 x320001_5, .slice none 0 0] 24 (0, 0)) (dB_ BK319) hb)
                           replace BK326 := Aside0.mk (blk_below (g := gb326) (o := .cells #[.int .i64 x327000_5, .int .i64 x327001_5, .slice (some ad332) x327002_5.length co64] 24 (0, 0)) (dB_ BK326) hb)
                           replace HB := Aside0.mk (below_step (dL3_ HB GE318 GE319 GE326) hb)
                           (try clear hb)
                           (try clear hb2)
                           (try clear hk)
                           (try clear hi)
                           (try clear ho0)
                           (try clear ho1)
                           refine hK.out _ _ ⟨(blk_cell BK326.out 0).trans rfl, (blk_cell BK326.out 1).trans rfl, (blk_cell BK326.out 2).trans rfl, (blk_cell BK318.out 0).trans rfl, (blk_cell BK318.out 1).trans rfl, (blk_cell BK318.out 2).trans rfl, HS6_⟩ (fun hHeld => ?_)
                           clear hK K
                           refine norm_ (a' := ?_) ?_ ?_
                           rotate_left
                           ·show Act.put _ (some 101) _ = _
                            simp only [Act.put, sI_, s0_, sS_, i64_w, i32_w]
                            rfl
                           refine pure_ (i := 20) (N := some 81) (v := ?_) (a' := ?_) #[true, true, true, true, true, true, true, true, true, true, true, true, true, true, true, true, true, true, true, true, true, false, false, false, false, false, false, false, false, false] rfl rfl (any_of HT_.out (by kernel_rfl)) (fun _ _ _ h => h) (Or.inl ⟨by rfl, ?_⟩) ?_ ?_
                           rotate_left
                           ·intro w'
                            go_simp
                            with_reducible rfl
                           rotate_left
                           ·simp only [Act.put, sI_, s0_, sS_, i64_w, i32_w]
                            rfl
                           refine pure_ (i := 21) (N := some 102) (v := ?_) (a' := ?_) #[true, true, true, true, true, true, true, true, true, true, true, true, true, true, true, true, true, true, true, true, true, true, false, false, false, false, false, false, false, false] rfl rfl (any_of HT_.out (by kernel_rfl)) (fun _ _ _ h => h) (Or.inl ⟨by rfl, ?_⟩) ?_ ?_
                           rotate_left
                           ·intro w'
                            go_simp
                            with_reducible rfl
                           rotate_left
                           ·simp only [Act.put, sI_, s0_, sS_, i64_w, i32_w]
                            rfl
                           refine pure_ (i := 22) (N := some 103) (v := ?_) (a' := ?_) #[true, true, true, true, true, true, true, true, true, true, true, true, true, true, true, true, true, true, true, true, true, true, true, false, false, false, false, false, false, false] rfl rfl (any_of HT_.out (by kernel_rfl)) (fun _ _ _ h => h) (Or.inl ⟨by rfl, ?_⟩) ?_ ?_
                           rotate_left
                           ·intro w'
                            go_simp
                            with_reducible rfl
                           rotate_left
                           ·simp only [Act.put, sI_, s0_, sS_, i64_w, i32_w]
                            rfl
                           refine pure_ (i := 23) (N := some 104) (v := ?_) (a' := ?_) #[true, true, true, true, true, true, true, true, true, true, true, true, true, true, true, true, true, true, true, true, true, true, true, true, false, false, false, false, false, false] rfl rfl (any_of HT_.out (by kernel_rfl)) (fun _ _ _ h => h) (Or.inl ⟨by rfl, ?_⟩) ?_ ?_
                           rotate_left
                           ·intro w'
                            go_simp
                            with_reducible rfl
                           rotate_left
                           ·simp only [Act.put, sI_, s0_, sS_, i64_w, i32_w]
                            rfl
                           refine pure_ (i := 24) (N := some 105) (v := ?_) (a' := ?_) #[true, true, true, true, true, true, true, true, true, true, true, true, true, true, true, true, true, true, true, true, true, true, true, true, true, false, false, false, false, false] rfl rfl (any_of HT_.out (by kernel_rfl)) (fun _ _ _ h => h) (Or.inl ⟨by rfl, ?_⟩) ?_ ?_
                           rotate_left
                           ·intro w'
                            go_simp
                            with_reducible rfl
                           rotate_left
                           ·simp only [Act.put, sI_, s0_, sS_, i64_w, i32_w]
                            rfl
                           refine one_ (i := 25) (N := some 20) #[true, true, true, true, true, true, true, true, true, true, true, true, true, true, true, true, true, true, true, true, true, true, true, true, true, true, false, false, false, false] rfl rfl (one_of HT_.out (by kernel_rfl)) (by decide) (fun K hK => ?_)
                           refine box_step ?hg (N := 20) ?hd (cs := #[.int .i64 0, .int .i64 0, .slice none 0 0]) (t := 24) ?hr ?_; (case hd => rfl); (case hg => rfl); (case hr => first | (go_simp; done) | (go_simp; rfl))
                           intro gb344 hg w67 hbox hb
                           have HS6_ := (hb.cell (World.block_lt_of_cell? _ _ (hHeld.2.2.2.2.2.2))).trans (hHeld.2.2.2.2.2.2)
                           replace HO_327002 := Aside0.mk (Kd.R_below (dR_ HO_327002) hb)
                           replace HO338 := Aside0.mk (Kd.R_below (dR_ HO338) hb)
                           replace HO341 := Aside0.mk (Kd.R_below (dR_ HO341) hb)
                           have BK344 := Aside0.mk (hbox)
                           have GW344 := Aside0.mk ((dS_ hg (dL3_ HB GE318 GE319 GE326) : w.heap.size ≤ gb344))
                           have GE344 := Aside0.mk ((dS_ hg (dL3_ HB GE318 GE319 GE326) : w.heap.size ≤ gb344))
                           replace HB := Aside0.mk (below_step (dL3_ HB GE318 GE319 GE326) hb)
                           have NB318_344 := Aside0.mk ((by rw [hg]; exact Nat.ne_of_lt (blk_lt (dB_ BK318)) : gb318 ≠ gb344))
                           have NB344_318 := Aside0.mk ((by rw [hg]; exact Nat.ne_of_gt (blk_lt (dB_ BK318)) : gb344 ≠ gb318))
                           replace BK318 := Aside0.mk (blk_below (g := gb318) (o := .cells #[.int .i64 a0_0, .int .i64 a0_1, .slice A0_2 l0_2.length c0_2] 24 (0, 0)) (dB_ BK318) hb)
                           have NB319_344 := Aside0.mk ((by rw [hg]; exact Nat.ne_of_lt (blk_lt (dB_ BK319)) : gb319 ≠ gb344))
                           have NB344_319 := Aside0.mk ((by rw [hg]; exact Nat.ne_of_gt (blk_lt (dB_ BK319)) : gb344 ≠ gb319))
                           replace BK319 := Aside0.mk (blk_below (g := gb319) (o := .cells #[.int .i64 x320000_5, .int .i64 x320001_5, .slice none 0 0] 24 (0, 0)) (dB_ BK319) hb)
                           have NB326_344 := Aside0.mk ((by rw [hg]; exact Nat.ne_of_lt (blk_lt (dB_ BK326)) : gb326 ≠ gb344))
                           have NB344_326 := Aside0.mk ((by rw [hg]; exact Nat.ne_of_gt (blk_lt (dB_ BK326)) : gb344 ≠ gb326))
                           replace BK326 := Aside0.mk (blk_below (g := gb326) (o := .cells #[.int .i64 x327000_5, .int .i64 x327001_5, .slice (some ad332) x327002_5.length co64] 24 (0, 0)) (dB_ BK326) hb)
                           clear hb hbox hg
                           refine hK.out _ _ ⟨(blk_cell BK326.out 0).trans rfl, (blk_cell BK326.out 1).trans rfl, (blk_cell BK326.out 2).trans rfl, (blk_cell BK318.out 0).trans rfl, (blk_cell BK318.out 1).trans rfl, (blk_cell BK318.out 2).trans rfl, HS6_⟩ (fun hHeld => ?_)
                           clear hK K
                           refine norm_ (a' := ?_) ?_ ?_
                           rotate_left
                           ·show Act.put _ (some 20) _ = _
                            simp only [Act.put, sI_, s0_, sS_, i64_w, i32_w]
                            rfl
                           exact norm_ (by simp only [putAll, Act.put, sI_, s0_, sS_]) (hCont (v337, v340, gb344) _ ⟨hHeld, (by (with_reducible repeat (first | apply Kd.R_alloc | apply Kd.R_drewN | apply Kd.R_drew)); exact Kd.R_mono HO338.out (fun _ hk => hk.2)), (dR_ HO341), (by (with_reducible repeat (first | apply Kd.R_alloc | apply Kd.R_drewN | apply Kd.R_drew)); exact Kd.R_mono HO_327002.out (fun _ hk => hk.2)), (dB_ BK318), (dB_ BK319), (dB_ BK326), (dB_ BK344), GW344.out, GE344.out, NB318_344.out, NB344_318.out, NB319_344.out, NB344_319.out, NB326_344.out, NB344_326.out, (dL4_ HB GE318 GE319 GE326 GE344)⟩)
                          ·skip
                           refine box_step ?hg (N := 20) ?hd (cs := #[.int .i64 0, .int .i64 0, .slice none 0 0]) (t := 24) ?hr ?_; (case hd => rfl); (case hg => rfl); (case hr => first | (go_simp; done) | (go_simp; rfl))
                           intro gb344 hg w66 hbox hb
                           have HS6_ := (hb.cell (World.block_lt_of_cell? _ _ (hHeld.2.2.2.2.2.2))).trans (hHeld.2.2.2.2.2.2)
                           replace HO_327002 := Aside0.mk (Kd.R_below (dR_ HO_327002) hb)
                           have BK344 := Aside0.mk (hbox)
                           have GW344 := Aside0.mk ((dS_ hg (dL3_ HB GE318 GE319 GE326) : w.heap.size ≤ gb344))
                           have GE344 := Aside0.mk ((dS_ hg (dL3_ HB GE318 GE319 GE326) : w.heap.size ≤ gb344))
                           replace HB := Aside0.mk (below_step (dL3_ HB GE318 GE319 GE326) hb)
                           have NB318_344 := Aside0.mk ((by rw [hg]; exact Nat.ne_of_lt (blk_lt (dB_ BK318)) : gb318 ≠ gb344))
                           have NB344_318 := Aside0.mk ((by rw [hg]; exact Nat.ne_of_gt (blk_lt (dB_ BK318)) : gb344 ≠ gb318))
                           replace BK318 := Aside0.mk (blk_below (g := gb318) (o := .cells #[.int .i64 a0_0, .int .i64 a0_1, .slice A0_2 l0_2.length c0_2] 24 (0, 0)) (dB_ BK318) hb)
                           have NB319_344 := Aside0.mk ((by rw [hg]; exact Nat.ne_of_lt (blk_lt (dB_ BK319)) : gb319 ≠ gb344))
                           have NB344_319 := Aside0.mk ((by rw [hg]; exact Nat.ne_of_gt (blk_lt (dB_ BK319)) : gb344 ≠ gb319))
                           replace BK319 := Aside0.mk (blk_below (g := gb319) (o := .cells #[.int .i64 x320000_5, .int .i64 x320001_5, .slice none 0 0] 24 (0, 0)) (dB_ BK319) hb)
                           have NB326_344 := Aside0.mk ((by rw [hg]; exact Nat.ne_of_lt (blk_lt (dB_ BK326)) : gb326 ≠ gb344))
                           have NB344_326 := Aside0.mk ((by rw [hg]; exact Nat.ne_of_gt (blk_lt (dB_ BK326)) : gb344 ≠ gb326))
                           replace BK326 := Aside0.mk (blk_below (g := gb326) (o := .cells #[.int .i64 x327000_5, .int .i64 x327001_5, .slice (some ad332) x327002_5.length co64] 24 (0, 0)) (dB_ BK326) hb)
                           clear hb hbox hg
                           refine hK.out _ _ ⟨(blk_cell BK326.out 0).trans rfl, (blk_cell BK326.out 1).trans rfl, (blk_cell BK326.out 2).trans rfl, (blk_cell BK318.out 0).trans rfl, (blk_cell BK318.out 1).trans rfl, (blk_cell BK318.out 2).trans rfl, HS6_⟩ (fun hHeld => ?_)
                           clear hK K
                           refine norm_ (a' := ?_) ?_ ?_
                           rotate_left
                           ·show Act.put _ (some 20) _ = _
                            simp only [Act.put, sI_, s0_, sS_, i64_w, i32_w]
                            rfl
                           refine one_ (i := 19) (N := some 101) #[true, true, true, true, true, true, true, true, true, true, true, true, true, true, true, true, true, true, true, true, false, false, false, false, false, true, false, false, false, false] rfl rfl (one_of HT_.out (by kernel_rfl)) (by decide) (fun K hK => ?_)
                           refine goes_ Try.func20 (by kernel_rfl) rfl #[.agg #[.int .i64 x327000_5, .int .i64 x327001_5, .slice (some ad332) x327002_5.length co64], .int .i64 (Int.tmod (rd [t328, t329, t330, t331] x71_4) (wrap64 (a0_0 + 1))), .int .i64 (wrap64 (Int.tdiv (rd [t328, t329, t330, t331] x71_4) (wrap64 (a0_0 + 1)))), .bool (decide ((rd x327002_5 (rd [t328, t329, t330, t331] x71_4)) < a2)), .slice A3 l3.length c3] (by rfl) rfl rfl tA_ ?_
                           with_reducible refine (hinterlandref02_Shift.calls k5 x327000_5 x327001_5 _ _ x327002_5 (Int.tmod (rd [t328, t329, t330, t331] x71_4) (wrap64 (a0_0 + 1))) (wrap64 (Int.tdiv (rd [t328, t329, t330, t331] x71_4) (wrap64 (a0_0 + 1)))) (decide ((rd x327002_5 (rd [t328, t329, t330, t331] x71_4)) < a2)) _ _ l3 t334 t335 t336 t339 t342 t343 _ ?side1 ?side2 ?side3 ?side4 A59.out).mono ?_
                           (case side1 => repeat (first | exact (Kd.R_reads' HO_327002.out).2.2 | (with_reducible refine Kd.C_alloc ?_ _) | (with_reducible refine Kd.C_drewN ?_ _) | (with_reducible refine Kd.C_drew ?_)))
                           (case side2 => exact (Kd.R_reads' HO_327002.out).2.1)
                           (case side3 => exact dC_ HR3 HB)
                           (case side4 => exact HC3.out)
                           rintro e w67 ⟨v337, v340, rfl, ho0, ho1, hb⟩
                           have HS6_ := (hb.cell (World.block_lt_of_cell? _ _ (hHeld.2.2.2.2.2.2))).trans (hHeld.2.2.2.2.2.2)
                           refine ⟨_, rfl, ?_⟩
                           have HO338 := Aside0.mk (Kd.R_lower (Kd.R_new' ho0 (Kd.R_lt (dR_ HO_327002))) (below_size (dL4_ HB GE318 GE319 GE326 GE344)))
                           replace HO_327002 := Aside0.mk (Kd.R_elder' (dR_ HO_327002) (Kd.R_base ho0) hb)
                           have HO341 := Aside0.mk (Kd.R_lower ho1 (below_size (dL4_ HB GE318 GE319 GE326 GE344)))
                           replace BK318 := Aside0.mk (blk_below (g := gb318) (o := .cells #[.int .i64 a0_0, .int .i64 a0_1, .slice A0_2 l0_2.length c0_2] 24 (0, 0)) (dB_ BK318) hb)
                           replace BK319 := Aside0.mk (blk_below (g := gb319) (o := .cells #[.int .i64 x320000_5, .int .i64 x320001_5, .slice none 0 0] 24 (0, 0)) (dB_ BK319) hb)
                           replace BK326 := Aside0.mk (blk_below (g := gb326) (o := .cells #[.int .i64 x327000_5, .int .i64 x327001_5, .slice (some ad332) x327002_5.length co64] 24 (0, 0)) (dB_ BK326) hb)
                           replace BK344 := Aside0.mk (blk_below (g := gb344) (o := .cells #[.int .i64 0, .int .i64 0, .slice none 0 0] 24 (0, 0)) (dB_ BK344) hb)
                           replace HB := Aside0.mk (below_step (dL4_ HB GE318 GE319 GE326 GE344) hb)
                           (try clear hb)
                           (try clear hb2)
                           (try clear hk)
                           (try clear hi)
                           (try clear ho0)
                           (try clear ho1)
                           refine hK.out _ _ ⟨(blk_cell BK326.out 0).trans rfl, (blk_cell BK326.out 1).trans rfl, (blk_cell BK326.out 2).trans rfl, (blk_cell BK318.out 0).trans rfl, (blk_cell BK318.out 1).trans rfl, (blk_cell BK318.out 2).trans rfl, HS6_⟩ (fun hHeld => ?_)
                           clear hK K
                           refine norm_ (a' := ?_) ?_ ?_
                           rotate_left
                           ·show Act.put _ (some 101) _ = _
                            simp only [Act.put, sI_, s0_, sS_, i64_w, i32_w]
                            rfl
                           refine pure_ (i := 20) (N := some 81) (v := ?_) (a' := ?_) #[true, true, true, true, true, true, true, true, true, true, true, true, true, true, true, true, true, true, true, true, true, false, false, false, false, true, false, false, false, false] rfl rfl (any_of HT_.out (by kernel_rfl)) (fun _ _ _ h => h) (Or.inl ⟨by rfl, ?_⟩) ?_ ?_
                           rotate_left
                           ·intro w'
                            go_simp
                            with_reducible rfl
                           rotate_left
                           ·simp only [Act.put, sI_, s0_, sS_, i64_w, i32_w]
                            rfl
                           refine pure_ (i := 21) (N := some 102) (v := ?_) (a' := ?_) #[true, true, true, true, true, true, true, true, true, true, true, true, true, true, true, true, true, true, true, true, true, true, false, false, false, true, false, false, false, false] rfl rfl (any_of HT_.out (by kernel_rfl)) (fun _ _ _ h => h) (Or.inl ⟨by rfl, ?_⟩) ?_ ?_
                           rotate_left
                           ·intro w'
                            go_simp
                            with_reducible rfl
                           rotate_left
                           ·simp only [Act.put, sI_, s0_, sS_, i64_w, i32_w]
                            rfl
                           refine pure_ (i := 22) (N := some 103) (v := ?_) (a' := ?_) #[true, true, true, true, true, true, true, true, true, true, true, true, true, true, true, true, true, true, true, true, true, true, true, false, false, true, false, false, false, false] rfl rfl (any_of HT_.out (by kernel_rfl)) (fun _ _ _ h => h) (Or.inl ⟨by rfl, ?_⟩) ?_ ?_
                           rotate_left
                           ·intro w'
                            go_simp
                            with_reducible rfl
                           rotate_left
                           ·simp only [Act.put, sI_, s0_, sS_, i64_w, i32_w]
                            rfl
                           refine pure_ (i := 23) (N := some 104) (v := ?_) (a' := ?_) #[true, true, true, true, true, true, true, true, true, true, true, true, true, true, true, true, true, true, true, true, true, true, true, true, false, true, false, false, false, false] rfl rfl (any_of HT_.out (by kernel_rfl)) (fun _ _ _ h => h) (Or.inl ⟨by rfl, ?_⟩) ?_ ?_
                           rotate_left
                           ·intro w'
                            go_simp
                            with_reducible rfl
                           rotate_left
                           ·simp only [Act.put, sI_, s0_, sS_, i64_w, i32_w]
                            rfl
                           refine pure_ (i := 24) (N := some 105) (v := ?_) (a' := ?_) #[true, true, true, true, true, true, true, true, true, true, true, true, true, true, true, true, true, true, true, true, true, true, true, true, true, true, false, false, false, false] rfl rfl (any_of HT_.out (by kernel_rfl)) (fun _ _ _ h => h) (Or.inl ⟨by rfl, ?_⟩) ?_ ?_
                           rotate_left
                           ·intro w'
                            go_simp
                            with_reducible rfl
                           rotate_left
                           ·simp only [Act.put, sI_, s0_, sS_, i64_w, i32_w]
                            rfl
                           exact norm_ (by simp only [putAll, Act.put, sI_, s0_, sS_]) (hCont (v337, v340, gb344) _ ⟨hHeld, (by (with_reducible repeat (first | apply Kd.R_alloc | apply Kd.R_drewN | apply Kd.R_drew)); exact Kd.R_mono HO338.out (fun _ hk => hk.2)), (dR_ HO341), (by (with_reducible repeat (first | apply Kd.R_alloc | apply Kd.R_drewN | apply Kd.R_drew)); exact Kd.R_mono HO_327002.out (fun _ hk => hk.2)), (dB_ BK318), (dB_ BK319), (dB_ BK326), (dB_ BK344), GW344.out, GE344.out, NB318_344.out, NB344_318.out, NB319_344.out, NB344_319.out, NB326_344.out, NB344_326.out, (dL4_ HB GE318 GE319 GE326 GE344)⟩)
                         rintro ⟨v337, v340, gb344⟩ w68 ⟨hS_, h0_, h1_, h2_, h3_, h4_, h5_, h6_, h7_, h8_, h9_, h10_, h11_, h12_, h13_, h14_, h15_⟩
                         have n0_ : Aside0 (Kd.R (Kd.int .i64) 3 w68 w.heap.size (fun k_ => some k_ ≠ (.slice (some ad332) x327002_5.length co64 : Value).ownBlock) v337 t336) := ⟨h0_⟩
                         have n1_ : Aside0 (Kd.R k36 36 w68 w.heap.size (fun _ => True) v340 t339) := ⟨h1_⟩
                         have n2_ : Aside0 (Kd.R (Kd.int .i64) 3 w68 w.heap.size (fun k_ => some k_ ≠ (v337 : Value).ownBlock) (.slice (some ad332) x327002_5.length co64) x327002_5) := ⟨h2_⟩
                         have n3_ : Aside0 (w68.heap[gb318]? = some (.cells #[.int .i64 a0_0, .int .i64 a0_1, .slice A0_2 l0_2.length c0_2] 24 (0, 0))) := ⟨h3_⟩
                         have n4_ : Aside0 (w68.heap[gb319]? = some (.cells #[.int .i64 x320000_5, .int .i64 x320001_5, .slice none 0 0] 24 (0, 0))) := ⟨h4_⟩
                         have n5_ : Aside0 (w68.heap[gb326]? = some (.cells #[.int .i64 x327000_5, .int .i64 x327001_5, .slice (some ad332) x327002_5.length co64] 24 (0, 0))) := ⟨h5_⟩
                         have n6_ : Aside0 (w68.heap[gb344]? = some (.cells #[.int .i64 0, .int .i64 0, .slice none 0 0] 24 (0, 0))) := ⟨h6_⟩
                         have n7_ : Aside0 (w.heap.size ≤ gb344) := ⟨h7_⟩
                         have n8_ : Aside0 (w.heap.size ≤ gb344) := ⟨h8_⟩
                         have n9_ : Aside0 (gb318 ≠ gb344) := ⟨h9_⟩
                         have n10_ : Aside0 (gb344 ≠ gb318) := ⟨h10_⟩
                         have n11_ : Aside0 (gb319 ≠ gb344) := ⟨h11_⟩
                         have n12_ : Aside0 (gb344 ≠ gb319) := ⟨h12_⟩
                         have n13_ : Aside0 (gb326 ≠ gb344) := ⟨h13_⟩
                         have n14_ : Aside0 (gb344 ≠ gb326) := ⟨h14_⟩
                         have n15_ : Aside0 (Below w.heap.size w w68) := ⟨h15_⟩
                         clear HO_327002
                         clear BK318
                         clear BK319
                         clear BK326
                         clear HB
                         clear h0_ h1_ h2_ h3_ h4_ h5_ h6_ h7_ h8_ h9_ h10_ h11_ h12_ h13_ h14_ h15_
                         have HO338 := n0_
                         have HO341 := n1_
                         have HO_327002 := n2_
                         have BK318 := n3_
                         have BK319 := n4_
                         have BK326 := n5_
                         have BK344 := n6_
                         have GW344 := n7_
                         have GE344 := n8_
                         have NB318_344 := n9_
                         have NB344_318 := n10_
                         have NB319_344 := n11_
                         have NB344_319 := n12_
                         have NB326_344 := n13_
                         have NB344_326 := n14_
                         have HB := n15_
                         clear n0_ n1_ n2_ n3_ n4_ n5_ n6_ n7_ n8_ n9_ n10_ n11_ n12_ n13_ n14_ n15_
                         have hHeld : w68.cell? ⟨gb326, 0, none⟩ = some (.int .i64 x327000_5) ∧ w68.cell? ⟨gb326, 1, none⟩ = some (.int .i64 x327001_5) ∧ w68.cell? ⟨gb326, 2, none⟩ = some (.slice (some ad332) x327002_5.length co64) ∧ w68.cell? ⟨gb318, 0, none⟩ = some (.int .i64 a0_0) ∧ w68.cell? ⟨gb318, 1, none⟩ = some (.int .i64 a0_1) ∧ w68.cell? ⟨gb318, 2, none⟩ = some (.slice A0_2 l0_2.length c0_2) ∧ w68.cell? (ad332.add ((rd [t328, t329, t330, t331] x71_4)).toNat) = some (.int .i64 (rd x327002_5 (rd [t328, t329, t330, t331] x71_4))) := hS_
                         obtain ⟨Ao71, co71, eo71⟩ := Kd.R_slice HO338.out
                         (first | subst eo71 | (injection eo71 with f1_ f2_ f3_; have f4_ := f1_.symm; have f5_ := f3_.symm; clear f1_ f2_ f3_; subst f4_; subst f5_))
                         refine norm_ (a' := ?_) ?_ ?_
                         rotate_left
                         ·simp only [putAll, Act.put, sI_, s0_, sS_]
                          rfl
                         refine one_ (i := 26) (N := none) #[true, true, true, true, true, true, true, true, true, true, true, true, true, true, true, true, true, true, true, true, true, true, true, true, true, true, true, false, false, false] rfl rfl (one_of HT_.out (by kernel_rfl)) (by decide) (fun K hK => ?_)
                         have hs69 : w68.cell? ⟨gb344, 0, none⟩ = some (.int .i64 0) := (blk_cell BK344.out 0).trans rfl
                         have hfs69 := blk_frozen BK344.out 0
                         have hns69_0 := NB318_344.out
                         have hns69_1 := NB319_344.out
                         have hns69_2 := NB326_344.out
                         have hms69_0 := NB344_318.out
                         have hms69_1 := NB344_319.out
                         have hms69_2 := NB344_326.out
                         have hs70 : w68.cell? ⟨gb344, 1, none⟩ = some (.int .i64 0) := (blk_cell BK344.out 1).trans rfl
                         have hfs70 := blk_frozen BK344.out 1
                         have hns70_0 := NB318_344.out
                         have hns70_1 := NB319_344.out
                         have hns70_2 := NB326_344.out
                         have hms70_0 := NB344_318.out
                         have hms70_1 := NB344_319.out
                         have hms70_2 := NB344_326.out
                         have hs72 : w68.cell? ⟨gb344, 2, none⟩ = some (.slice none 0 0) := (blk_cell BK344.out 2).trans rfl
                         have hfs72 := blk_frozen BK344.out 2
                         have hns72_0 := NB318_344.out
                         have hns72_1 := NB319_344.out
                         have hns72_2 := NB326_344.out
                         have hms72_0 := NB344_318.out
                         have hms72_1 := NB344_319.out
                         have hms72_2 := NB344_326.out
                         refine skip_ (w1 := ?_) (by rfl) rfl ?_ ?_
                         rotate_left
                         ·go_simp
                          rfl
                         refine hK.out _ _ ⟨((cell_far (p := ⟨gb344, _, none⟩) NB326_344.out _).trans (((cell_far (p := ⟨gb344, _, none⟩) NB326_344.out _).trans (((cell_far (p := ⟨gb344, _, none⟩) NB326_344.out _).trans (hHeld.1)))))), ((cell_far (p := ⟨gb344, _, none⟩) NB326_344.out _).trans (((cell_far (p := ⟨gb344, _, none⟩) NB326_344.out _).trans (((cell_far (p := ⟨gb344, _, none⟩) NB326_344.out _).trans (hHeld.2.1)))))), ((cell_far (p := ⟨gb344, _, none⟩) NB326_344.out _).trans (((cell_far (p := ⟨gb344, _, none⟩) NB326_344.out _).trans (((cell_far (p := ⟨gb344, _, none⟩) NB326_344.out _).trans (hHeld.2.2.1)))))), ((cell_far (p := ⟨gb344, _, none⟩) NB318_344.out _).trans (((cell_far (p := ⟨gb344, _, none⟩) NB318_344.out _).trans (((cell_far (p := ⟨gb344, _, none⟩) NB318_344.out _).trans (hHeld.2.2.2.1)))))), ((cell_far (p := ⟨gb344, _, none⟩) NB318_344.out _).trans (((cell_far (p := ⟨gb344, _, none⟩) NB318_344.out _).trans (((cell_far (p := ⟨gb344, _, none⟩) NB318_344.out _).trans (hHeld.2.2.2.2.1)))))), ((cell_far (p := ⟨gb344, _, none⟩) NB318_344.out _).trans (((cell_far (p := ⟨gb344, _, none⟩) NB318_344.out _).trans (((cell_far (p := ⟨gb344, _, none⟩) NB318_344.out _).trans (hHeld.2.2.2.2.2.1)))))), ((cell_far (p := ⟨gb344, _, none⟩) (by first | exact Kd.own_blk (Kd.R_ne HO_327002.out BK344.out (by decide)) | (rw [add_block]; exact Kd.own_blk (Kd.R_ne HO_327002.out BK344.out (by decide))) | (show (Addr.add _ _).block ≠ _; rw [add_block]; exact Kd.own_blk (Kd.R_ne HO_327002.out BK344.out (by decide))) | (dsimp only; exact Kd.own_blk (Kd.R_ne HO_327002.out BK344.out (by decide)))) _).trans (((cell_far (p := ⟨gb344, _, none⟩) (by first | exact Kd.own_blk (Kd.R_ne HO_327002.out BK344.out (by decide)) | (rw [add_block]; exact Kd.own_blk (Kd.R_ne HO_327002.out BK344.out (by decide))) | (show (Addr.add _ _).block ≠ _; rw [add_block]; exact Kd.own_blk (Kd.R_ne HO_327002.out BK344.out (by decide))) | (dsimp only; exact Kd.own_blk (Kd.R_ne HO_327002.out BK344.out (by decide)))) _).trans (((cell_far (p := ⟨gb344, _, none⟩) (by first | exact Kd.own_blk (Kd.R_ne HO_327002.out BK344.out (by decide)) | (rw [add_block]; exact Kd.own_blk (Kd.R_ne HO_327002.out BK344.out (by decide))) | (show (Addr.add _ _).block ≠ _; rw [add_block]; exact Kd.own_blk (Kd.R_ne HO_327002.out BK344.out (by decide))) | (dsimp only; exact Kd.own_blk (Kd.R_ne HO_327002.out BK344.out (by decide)))) _).trans (hHeld.2.2.2.2.2.2))))))⟩ (fun hHeld => ?_)
                         clear hK K
                         refine pure_ (i := 27) (N := some 21) (v := ?_) (a' := ?_) #[true, true, true, true, true, true, true, true, true, true, true, true, true, true, true, true, true, true, true, true, true, true, true, true, true, true, true, true, false, false] rfl rfl (any_of HT_.out (by kernel_rfl)) (fun _ _ _ h => h) (Or.inl ⟨by rfl, ?_⟩) ?_ ?_
                         rotate_left
                         ·intro w'
                          go_simp
                          with_reducible rfl
                         rotate_left
                         ·simp only [Act.put, sI_, s0_, sS_, i64_w, i32_w]
                          rfl
                         refine pure_ (i := 28) (N := some 22) (v := ?_) (a' := ?_) #[true, true, true, true, true, true, true, true, true, true, true, true, true, true, true, true, true, true, true, true, true, true, true, true, true, true, true, true, true, false] rfl rfl (any_of HT_.out (by kernel_rfl)) (fun _ _ _ h => h) (Or.inl ⟨by rfl, ?_⟩) ?_ ?_
                         rotate_left
                         ·intro w'
                          go_simp
                          with_reducible rfl
                         rotate_left
                         ·simp only [Act.put, sI_, s0_, sS_, i64_w, i32_w]
                          rfl
                         refine pure_ (i := 29) (N := some 23) (v := ?_) (a' := ?_) #[true, true, true, true, true, true, true, true, true, true, true, true, true, true, true, true, true, true, true, true, true, true, true, true, true, true, true, true, true, true] rfl rfl (any_of HT_.out (by kernel_rfl)) (fun _ _ _ h => h) (Or.inl ⟨by rfl, ?_⟩) ?_ ?_
                         rotate_left
                         ·intro w'
                          go_simp
                          with_reducible rfl
                         rotate_left
                         ·simp only [Act.put, sI_, s0_, sS_, i64_w, i32_w]
                          rfl
                         refine done_ (done_of HT_.out (by kernel_rfl)) ?_
                         have hnb73 := NB344_318.out
                         have hnc73 := NB318_344.out
                         have hnb74 := NB344_319.out
                         have hnc74 := NB319_344.out
                         have hnb75 := NB344_326.out
                         have hnc75 := NB326_344.out
                         obtain ⟨hcz76_0, hcz76_1, hcz76_2, hfz76_0, hfz76_1, hfz76_2⟩ := cs3_ BK344.out
                         obtain ⟨hcz77_0, hcz77_1, hcz77_2, hfz77_0, hfz77_1, hfz77_2⟩ := cs3_ BK326.out
                         try go_wp2
                         go_roundg k5
                         case measure => have := HJ6.out; have := HK2.out; have := HK3.out; have := HK4.out; have := HK5.out; omega
                         case rel => exact ⟨(wrap64 (x15_5 + t342)), (x320000_5), (x320001_5), (t334), (t335), (t336), (.slice Ao71 t336.length co71), tS_, H', ⟨by have := HJ6.out; have := HK2.out; have := HK3.out; have := HK4.out; have := HK5.out; omega⟩, ⟨by (with_reducible repeat (first | apply Kd.R_alloc | apply Kd.R_drewN | apply Kd.R_drew)); exact Kd.R_mono (Kd.R_far (p := ⟨gb326, 2, none⟩) (Kd.R_far (p := ⟨gb326, 1, none⟩) (Kd.R_far (p := ⟨gb326, 0, none⟩) (Kd.R_far (p := ⟨gb344, 2, none⟩) (Kd.R_far (p := ⟨gb344, 1, none⟩) (Kd.R_far (p := ⟨gb344, 0, none⟩) (Kd.R_types (Kd.R_types HO338.out BK344.out (by decide)) BK326.out (by decide)) (fun _ hk => hk.1.2) (.int .i64 t334)) (fun _ hk => hk.1.2) (.int .i64 t335)) (fun _ hk => hk.1.2) (.slice Ao71 t336.length co71)) (fun _ hk => hk.2) (.int .i64 t334)) (fun _ hk => hk.2) (.int .i64 t335)) (fun _ hk => hk.2) (.slice Ao71 t336.length co71)) (fun _ hk => trivial)⟩, ⟨by (with_reducible repeat (first | refine blk_drewN ?_ _ | refine blk_drew ?_ | refine blk_alloc ?_ _)); refine blk_far ?_ NB318_326.out _; (with_reducible repeat (first | refine blk_drewN ?_ _ | refine blk_drew ?_ | refine blk_alloc ?_ _)); refine blk_far ?_ NB318_326.out _; (with_reducible repeat (first | refine blk_drewN ?_ _ | refine blk_drew ?_ | refine blk_alloc ?_ _)); refine blk_far ?_ NB318_326.out _; (with_reducible repeat (first | refine blk_drewN ?_ _ | refine blk_drew ?_ | refine blk_alloc ?_ _)); refine blk_far ?_ NB318_344.out _; (with_reducible repeat (first | refine blk_drewN ?_ _ | refine blk_drew ?_ | refine blk_alloc ?_ _)); refine blk_far ?_ NB318_344.out _; (with_reducible repeat (first | refine blk_drewN ?_ _ | refine blk_drew ?_ | refine blk_alloc ?_ _)); refine blk_far ?_ NB318_344.out _; (with_reducible repeat (first | refine blk_drewN ?_ _ | refine blk_drew ?_ | refine blk_alloc ?_ _)); exact BK318.out⟩, ⟨by (with_reducible repeat (first | refine blk_drewN ?_ _ | refine blk_drew ?_ | refine blk_alloc ?_ _)); refine blk_far ?_ NB319_326.out _; (with_reducible repeat (first | refine blk_drewN ?_ _ | refine blk_drew ?_ | refine blk_alloc ?_ _)); refine blk_far ?_ NB319_326.out _; (with_reducible repeat (first | refine blk_drewN ?_ _ | refine blk_drew ?_ | refine blk_alloc ?_ _)); refine blk_far ?_ NB319_326.out _; (with_reducible repeat (first | refine blk_drewN ?_ _ | refine blk_drew ?_ | refine blk_alloc ?_ _)); refine blk_far ?_ NB319_344.out _; (with_reducible repeat (first | refine blk_drewN ?_ _ | refine blk_drew ?_ | refine blk_alloc ?_ _)); refine blk_far ?_ NB319_344.out _; (with_reducible repeat (first | refine blk_drewN ?_ _ | refine blk_drew ?_ | refine blk_alloc ?_ _)); refine blk_far ?_ NB319_344.out _; (with_reducible repeat (first | refine blk_drewN ?_ _ | refine blk_drew ?_ | refine blk_alloc ?_ _)); exact BK319.out⟩, ⟨by (with_reducible repeat (first | refine blk_drewN ?_ _ | refine blk_drew ?_ | refine blk_alloc ?_ _)); refine blk_put (cs := #[.int .i64 t334, .int .i64 t335, .slice (some ad332) x327002_5.length co64]) ?_ 2 _ rfl; (with_reducible repeat (first | refine blk_drewN ?_ _ | refine blk_drew ?_ | refine blk_alloc ?_ _)); refine blk_put (cs := #[.int .i64 t334, .int .i64 x327001_5, .slice (some ad332) x327002_5.length co64]) ?_ 1 _ rfl; (with_reducible repeat (first | refine blk_drewN ?_ _ | refine blk_drew ?_ | refine blk_alloc ?_ _)); refine blk_put (cs := #[.int .i64 x327000_5, .int .i64 x327001_5, .slice (some ad332) x327002_5.length co64]) ?_ 0 _ rfl; (with_reducible repeat (first | refine blk_drewN ?_ _ | refine blk_drew ?_ | refine blk_alloc ?_ _)); refine blk_far ?_ NB326_344.out _; (with_reducible repeat (first | refine blk_drewN ?_ _ | refine blk_drew ?_ | refine blk_alloc ?_ _)); refine blk_far ?_ NB326_344.out _; (with_reducible repeat (first | refine blk_drewN ?_ _ | refine blk_drew ?_ | refine blk_alloc ?_ _)); refine blk_far ?_ NB326_344.out _; (with_reducible repeat (first | refine blk_drewN ?_ _ | refine blk_drew ?_ | refine blk_alloc ?_ _)); exact BK326.out⟩, ⟨dL4_ HB GE318 GE319 GE326 GE344⟩⟩
                        ·rw [if_neg c60] at H
                         have c60b0 : (t343 == 0) = false := beq_eq_false_iff_ne.mpr c60
                         have c60b1 : (t343 != 0) = true := bne_iff_ne.mpr c60
                         simp only [Option.some.injEq, Prod.mk.injEq] at H
                         obtain ⟨rfl, rfl, rfl, rfl, rfl⟩ := H
                         have hnb78 := NB326_318.out
                         have hnc78 := NB318_326.out
                         have hnb79 := NB326_319.out
                         have hnc79 := NB319_326.out
                         obtain ⟨hcz80_0, hcz80_1, hcz80_2, hfz80_0, hfz80_1, hfz80_2⟩ := cs3_ BK326.out
                         obtain ⟨Ao81, co81, eo81⟩ := Kd.R_slice HO_327002.out
                         subst eo81
                         have p332 : 0 ≤ ((rd [t328, t329, t330, t331] x71_4) : Int) := of_decide_eq_true tW_
                         have q332 : (rd [t328, t329, t330, t331] x71_4) < (x327002_5.length : Int) := of_decide_eq_true tW_
                         obtain ⟨ad332, e332, hx332_0⟩ := Kd.at_int (Kd.R_reads' HO_327002.out).2.2 (rd [t328, t329, t330, t331] x71_4) p332 q332
                         cases e332
                         replace p332 := eq_true p332
                         replace q332 := eq_true q332
                         try go_wp2
                         replace HO_327002 := Aside0.mk (Kd.R_drew HO_327002.out)
                         replace BK318 := Aside0.mk (blk_drew BK318.out)
                         replace BK319 := Aside0.mk (blk_drew BK319.out)
                         replace BK326 := Aside0.mk (blk_drew BK326.out)
                         replace HB := Aside0.mk (below_drew1 HB.out)
                         have p333 : 0 ≤ ((rd [t328, t329, t330, t331] x71_4) : Int) := of_decide_eq_true tW_
                         have q333 : (rd [t328, t329, t330, t331] x71_4) < (x327002_5.length : Int) := of_decide_eq_true tW_
                         obtain ⟨ad333, e333, hx333_0⟩ := Kd.at_int (Kd.R_reads' HO_327002.out).2.2 (rd [t328, t329, t330, t331] x71_4) p333 q333
                         obtain rfl : ad332 = ad333 := (by injection e333)
                         replace p333 := eq_true p333
                         replace q333 := eq_true q333
                         refine start_ (n := 30) (S := fun w' => w'.cell? ⟨gb326, 0, none⟩ = some (.int .i64 x327000_5) ∧ w'.cell? ⟨gb326, 1, none⟩ = some (.int .i64 x327001_5) ∧ w'.cell? ⟨gb326, 2, none⟩ = some (.slice (some ad332) x327002_5.length co81) ∧ w'.cell? ⟨gb318, 0, none⟩ = some (.int .i64 a0_0) ∧ w'.cell? ⟨gb318, 1, none⟩ = some (.int .i64 a0_1) ∧ w'.cell? ⟨gb318, 2, none⟩ = some (.slice A0_2 l0_2.length c0_2) ∧ w'.cell? (ad332.add ((rd [t328, t329, t330, t331] x71_4)).toNat) = some (.int .i64 (rd x327002_5 (rd [t328, t329, t330, t331] x71_4)))) (ds := []) #[false, false, false, false, false, false, false, false, false, false, false, false, false, false, false, false, false, false, false, false, false, false, false, false, false, false, false, false, false, false] (by kernel_rfl) rfl rfl ⟨(blk_cell BK326.out 0).trans rfl, (blk_cell BK326.out 1).trans rfl, (blk_cell BK326.out 2).trans rfl, (blk_cell BK318.out 0).trans rfl, (blk_cell BK318.out 1).trans rfl, (blk_cell BK318.out 2).trans rfl, hx333_0⟩ (fun hHeld => ?_); refine with_tabW hinterlandref02_Level.tab21 hinterlandref02_Level.bits21 (fun HT_ HW_ => ?_)
                         generalize wr.drew = w82 at HO_327002 BK318 BK319 BK326 HB hx333_0 hHeld ⊢
                         refine pure_ (i := 1) (N := some 83) (v := ?_) (a' := ?_) #[false, true, false, false, false, false, false, false, false, false, false, false, false, false, false, false, false, false, false, false, false, false, false, false, false, false, false, false, false, false] rfl rfl (any_of HT_.out (by kernel_rfl)) (fun _ _ _ h => h) (Or.inl ⟨by rfl, ?_⟩) ?_ ?_
                         rotate_left
                         ·intro w'
                          go_simp
                          with_reducible rfl
                         rotate_left
                         ·simp only [Act.put, sI_, s0_, sS_, i64_w, i32_w]
                          rfl
                         refine pure_ (i := 2) (N := some 84) (v := ?_) (a' := ?_) #[false, true, true, false, false, false, false, false, false, false, false, false, false, false, false, false, false, false, false, false, false, false, false, false, false, false, false, false, false, false] rfl rfl (any_of HT_.out (by kernel_rfl)) (fun _ _ _ h => h) (Or.inl ⟨by rfl, ?_⟩) ?_ ?_
                         rotate_left
                         ·intro w'
                          go_simp
                          with_reducible rfl
                         rotate_left
                         ·simp only [Act.put, sI_, s0_, sS_, i64_w, i32_w]
                          rfl
                         refine pure_ (i := 6) (N := some 88) (v := ?_) (a' := ?_) #[false, true, true, false, false, false, true, false, false, false, false, false, false, false, false, false, false, false, false, false, false, false, false, false, false, false, false, false, false, false] rfl rfl (any_of HT_.out (by kernel_rfl)) (fun _ _ _ h => h) (Or.inl ⟨by rfl, ?_⟩) ?_ ?_
                         rotate_left
                         ·intro w'
                          go_simp
                          with_reducible rfl
                         rotate_left
                         ·simp only [Act.put, sI_, s0_, sS_, i64_w, i32_w]
                          rfl
                         refine pure_ (i := 7) (N := some 89) (v := ?_) (a' := ?_) #[false, true, true, false, false, false, true, true, false, false, false, false, false, false, false, false, false, false, false, false, false, false, false, false, false, false, false, false, false, false] rfl rfl (any_of HT_.out (by kernel_rfl)) (fun _ _ _ h => h) (Or.inl ⟨by rfl, ?_⟩) ?_ ?_
                         rotate_left
                         ·intro w'
                          go_simp
                          with_reducible rfl
                         rotate_left
                         ·simp only [Act.put, sI_, s0_, sS_, i64_w, i32_w]
                          rfl
                         refine pure_ (i := 11) (N := some 93) (v := ?_) (a' := ?_) #[false, true, true, false, false, false, true, true, false, false, false, true, false, false, false, false, false, false, false, false, false, false, false, false, false, false, false, false, false, false] rfl rfl (any_of HT_.out (by kernel_rfl)) (fun _ _ _ h => h) (Or.inl ⟨by rfl, ?_⟩) ?_ ?_
                         rotate_left
                         ·intro w'
                          go_simp
                          with_reducible rfl
                         rotate_left
                         ·simp only [Act.put, sI_, s0_, sS_, i64_w, i32_w]
                          rfl
                         refine pure_ (i := 13) (N := some 95) (v := ?_) (a' := ?_) #[false, true, true, false, false, false, true, true, false, false, false, true, false, true, false, false, false, false, false, false, false, false, false, false, false, false, false, false, false, false] rfl rfl (any_of HT_.out (by kernel_rfl)) (fun _ _ _ h => h) (Or.inl ⟨by rfl, ?_⟩) ?_ ?_
                         rotate_left
                         ·intro w'
                          go_simp
                          with_reducible rfl
                         rotate_left
                         ·simp only [Act.put, sI_, s0_, sS_, i64_w, i32_w]
                          rfl
                         refine pure_ (i := 16) (N := some 98) (v := ?_) (a' := ?_) #[false, true, true, false, false, false, true, true, false, false, false, true, false, true, false, false, true, false, false, false, false, false, false, false, false, false, false, false, false, false] rfl rfl (any_of HT_.out (by kernel_rfl)) (fun _ _ _ h => h) (Or.inl ⟨by rfl, ?_⟩) ?_ ?_
                         rotate_left
                         ·intro w'
                          go_simp
                          with_reducible rfl
                         rotate_left
                         ·simp only [Act.put, sI_, s0_, sS_, i64_w, i32_w]
                          rfl
                         refine pure_ (i := 18) (N := some 100) (v := ?_) (a' := ?_) #[false, true, true, false, false, false, true, true, false, false, false, true, false, true, false, false, true, false, true, false, false, false, false, false, false, false, false, false, false, false] rfl rfl (any_of HT_.out (by kernel_rfl)) (fun _ _ _ h => h) (Or.inl ⟨by rfl, ?_⟩) ?_ ?_
                         rotate_left
                         ·intro w'
                          go_simp
                          with_reducible rfl
                         rotate_left
                         ·simp only [Act.put, sI_, s0_, sS_, i64_w, i32_w]
                          rfl
                         refine take_ (i := 0) (N := some 82) (v := ?_) (a' := ?_) #[true, true, true, false, false, false, true, true, false, false, false, true, false, true, false, false, true, false, true, false, false, false, false, false, false, false, false, false, false, false] rfl rfl (take_ofW HT_.out HW_.out (by kernel_rfl)) (fun _ _ _ h => h) (Or.inl ⟨by rfl, ?_⟩) hHeld ?_ ?_
                         rotate_left
                         ·rintro w' ⟨s0, s1, s2, s3, s4, s5, s6⟩
                          go_simp
                          with_reducible rfl
                         rotate_left
                         ·simp only [Act.put, sI_, s0_, sS_, i64_w, i32_w]
                          rfl
                         refine take_ (i := 3) (N := some 85) (v := ?_) (a' := ?_) #[true, true, true, true, false, false, true, true, false, false, false, true, false, true, false, false, true, false, true, false, false, false, false, false, false, false, false, false, false, false] rfl rfl (take_ofW HT_.out HW_.out (by kernel_rfl)) (fun _ _ _ h => h) (Or.inl ⟨by rfl, ?_⟩) hHeld ?_ ?_
                         rotate_left
                         ·rintro w' ⟨s0, s1, s2, s3, s4, s5, s6⟩
                          go_simp
                          with_reducible rfl
                         rotate_left
                         ·simp only [Act.put, sI_, s0_, sS_, i64_w, i32_w]
                          rfl
                         refine pure_ (i := 4) (N := some 86) (v := ?_) (a' := ?_) #[true, true, true, true, true, false, true, true, false, false, false, true, false, true, false, false, true, false, true, false, false, false, false, false, false, false, false, false, false, false] rfl rfl (any_of HT_.out (by kernel_rfl)) (fun _ _ _ h => h) (Or.inl ⟨by rfl, ?_⟩) ?_ ?_
                         rotate_left
                         ·intro w'
                          go_simp
                          with_reducible rfl
                         rotate_left
                         ·simp only [Act.put, sI_, s0_, sS_, i64_w, i32_w]
                          rfl
                         refine pure_ (i := 5) (N := some 87) (v := ?_) (a' := ?_) #[true, true, true, true, true, true, true, true, false, false, false, true, false, true, false, false, true, false, true, false, false, false, false, false, false, false, false, false, false, false] rfl rfl (any_of HT_.out (by kernel_rfl)) (fun _ _ _ h => h) (Or.inl ⟨by rfl, ?_⟩) ?_ ?_
                         rotate_left
                         ·intro w'
                          go_simp
                          with_reducible rfl
                         rotate_left
                         ·simp only [Act.put, sI_, s0_, sS_, i64_w, i32_w]
                          rfl
                         refine take_ (i := 8) (N := some 90) (v := ?_) (a' := ?_) #[true, true, true, true, true, true, true, true, true, false, false, true, false, true, false, false, true, false, true, false, false, false, false, false, false, false, false, false, false, false] rfl rfl (take_ofW HT_.out HW_.out (by kernel_rfl)) (fun _ _ _ h => h) (Or.inl ⟨by rfl, ?_⟩) hHeld ?_ ?_
                         rotate_left
                         ·rintro w' ⟨s0, s1, s2, s3, s4, s5, s6⟩
                          go_simp
                          with_reducible rfl
                         rotate_left
                         ·simp only [Act.put, sI_, s0_, sS_, i64_w, i32_w]
                          rfl
                         refine pure_ (i := 9) (N := some 91) (v := ?_) (a' := ?_) #[true, true, true, true, true, true, true, true, true, true, false, true, false, true, false, false, true, false, true, false, false, false, false, false, false, false, false, false, false, false] rfl rfl (any_of HT_.out (by kernel_rfl)) (fun _ _ _ h => h) (Or.inl ⟨by rfl, ?_⟩) ?_ ?_
                         rotate_left
                         ·intro w'
                          go_simp
                          with_reducible rfl
                         rotate_left
                         ·simp only [Act.put, sI_, s0_, sS_, i64_w, i32_w]
                          rfl
                         refine pure_ (i := 10) (N := some 92) (v := ?_) (a' := ?_) #[true, true, true, true, true, true, true, true, true, true, true, true, false, true, false, false, true, false, true, false, false, false, false, false, false, false, false, false, false, false] rfl rfl (any_of HT_.out (by kernel_rfl)) (fun _ _ _ h => h) (Or.inl ⟨by rfl, ?_⟩) ?_ ?_
                         rotate_left
                         ·intro w'
                          go_simp
                          with_reducible rfl
                         rotate_left
                         ·simp only [Act.put, sI_, s0_, sS_, i64_w, i32_w]
                          rfl
                         refine take_ (i := 12) (N := some 94) (v := ?_) (a' := ?_) #[true, true, true, true, true, true, true, true, true, true, true, true, true, true, false, false, true, false, true, false, false, false, false, false, false, false, false, false, false, false] rfl rfl (take_ofW HT_.out HW_.out (by kernel_rfl)) (fun _ _ _ h => h) (Or.inl ⟨by rfl, ?_⟩) hHeld ?_ ?_
                         rotate_left
                         ·rintro w' ⟨s0, s1, s2, s3, s4, s5, s6⟩
                          go_simp
                          with_reducible rfl
                         rotate_left
                         ·simp only [Act.put, sI_, s0_, sS_, i64_w, i32_w]
                          rfl
                         refine pure_ (i := 14) (N := some 96) (v := ?_) (a' := ?_) #[true, true, true, true, true, true, true, true, true, true, true, true, true, true, true, false, true, false, true, false, false, false, false, false, false, false, false, false, false, false] rfl rfl (any_of HT_.out (by kernel_rfl)) (fun _ _ _ h => h) (Or.inl ⟨by rfl, ?_⟩) ?_ ?_
                         rotate_left
                         ·intro w'
                          go_simp
                          with_reducible rfl
                         rotate_left
                         ·simp only [Act.put, sI_, s0_, sS_, i64_w, i32_w]
                          rfl
                         refine take_ (i := 15) (N := some 97) (v := ?_) (a' := ?_) #[true, true, true, true, true, true, true, true, true, true, true, true, true, true, true, true, true, false, true, false, false, false, false, false, false, false, false, false, false, false] rfl rfl (take_ofW HT_.out HW_.out (by kernel_rfl)) (fun _ _ _ h => h) (Or.inl ⟨by rfl, ?_⟩) hHeld ?_ ?_
                         rotate_left
                         ·rintro w' ⟨s0, s1, s2, s3, s4, s5, s6⟩
                          go_simp
                          with_reducible rfl
                         rotate_left
                         ·simp only [Act.put, sI_, s0_, sS_, i64_w, i32_w]
                          rfl
                         refine pure_ (i := 17) (N := some 99) (v := ?_) (a' := ?_) #[true, true, true, true, true, true, true, true, true, true, true, true, true, true, true, true, true, true, true, false, false, false, false, false, false, false, false, false, false, false] rfl rfl (any_of HT_.out (by kernel_rfl)) (fun _ _ _ h => h) (Or.inl ⟨by rfl, ?_⟩) ?_ ?_
                         rotate_left
                         ·intro w'
                          go_simp
                          with_reducible rfl
                         rotate_left
                         ·simp only [Act.put, sI_, s0_, sS_, i64_w, i32_w]
                          rfl
                         refine join_ (σ := Value × Value × Nat) 4 #[true, true, true, true, true, true, true, true, true, true, true, true, true, true, true, true, true, true, true, true, true, true, true, true, true, true, false, false, false, false] (fun s_ => [(101, .tuple #[.agg #[.int .i64 t334, .int .i64 t335, s_.1], s_.2.1, .int .i64 t342, .int .i64 t343]), (20, .pointer (some ⟨s_.2.2, 0, none⟩)), (81, .tuple #[.agg #[.int .i64 t334, .int .i64 t335, s_.1], s_.2.1, .int .i64 t342, .int .i64 t343]), (102, .agg #[.int .i64 t334, .int .i64 t335, s_.1]), (103, s_.2.1), (104, .int .i64 t342), (105, .int .i64 t343)]) (fun s_ w' => (w'.cell? ⟨gb326, 0, none⟩ = some (.int .i64 x327000_5) ∧ w'.cell? ⟨gb326, 1, none⟩ = some (.int .i64 x327001_5) ∧ w'.cell? ⟨gb326, 2, none⟩ = some (.slice (some ad332) x327002_5.length co81) ∧ w'.cell? ⟨gb318, 0, none⟩ = some (.int .i64 a0_0) ∧ w'.cell? ⟨gb318, 1, none⟩ = some (.int .i64 a0_1) ∧ w'.cell? ⟨gb318, 2, none⟩ = some (.slice A0_2 l0_2.length c0_2) ∧ w'.cell? (ad332.add ((rd [t328, t329, t330, t331] x71_4)).toNat) = some (.int .i64 (rd x327002_5 (rd [t328, t329, t330, t331] x71_4)))) ∧ (Kd.R (Kd.int .i64) 3 w' w.heap.size (fun k_ => some k_ ≠ (.slice (some ad332) x327002_5.length co81 : Value).ownBlock) s_.1 t336) ∧ (Kd.R k36 36 w' w.heap.size (fun _ => True) s_.2.1 t339) ∧ (Kd.R (Kd.int .i64) 3 w' w.heap.size (fun k_ => some k_ ≠ (s_.1 : Value).ownBlock) (.slice (some ad332) x327002_5.length co81) x327002_5) ∧ (w'.heap[gb318]? = some (.cells #[.int .i64 a0_0, .int .i64 a0_1, .slice A0_2 l0_2.length c0_2] 24 (0, 0))) ∧ (w'.heap[gb319]? = some (.cells #[.int .i64 x320000_5, .int .i64 x320001_5, .slice none 0 0] 24 (0, 0))) ∧ (w'.heap[gb326]? = some (.cells #[.int .i64 x327000_5, .int .i64 x327001_5, .slice (some ad332) x327002_5.length co81] 24 (0, 0))) ∧ (w'.heap[s_.2.2]? = some (.cells #[.int .i64 0, .int .i64 0, .slice none 0 0] 24 (0, 0))) ∧ (w.heap.size ≤ s_.2.2) ∧ (w.heap.size ≤ s_.2.2) ∧ (gb318 ≠ s_.2.2) ∧ (s_.2.2 ≠ gb318) ∧ (gb319 ≠ s_.2.2) ∧ (s_.2.2 ≠ gb319) ∧ (gb326 ≠ s_.2.2) ∧ (s_.2.2 ≠ gb326) ∧ (Below w.heap.size w w')) ?_ ?_
                         rotate_left
                         ·intro hCont
                          refine two_ (i := 19) (j := 25) (Ni := some 101) (Nj := some 20) #[true, true, true, true, true, true, true, true, true, true, true, true, true, true, true, true, true, true, true, true, false, false, false, false, false, false, false, false, false, false] #[true, true, true, true, true, true, true, true, true, true, true, true, true, true, true, true, true, true, true, false, false, false, false, false, false, true, false, false, false, false] rfl rfl rfl rfl (two_of HT_.out (by kernel_rfl)) (by decide) (by decide) (fun K hK => ?_) (fun K hK => ?_)
                          ·skip
                           refine goes_ Try.func20 (by kernel_rfl) rfl #[.agg #[.int .i64 x327000_5, .int .i64 x327001_5, .slice (some ad332) x327002_5.length co81], .int .i64 (Int.tmod (rd [t328, t329, t330, t331] x71_4) (wrap64 (a0_0 + 1))), .int .i64 (wrap64 (Int.tdiv (rd [t328, t329, t330, t331] x71_4) (wrap64 (a0_0 + 1)))), .bool (decide ((rd x327002_5 (rd [t328, t329, t330, t331] x71_4)) < a2)), .slice A3 l3.length c3] (by rfl) rfl rfl tA_ ?_
                           with_reducible refine (hinterlandref02_Shift.calls k5 x327000_5 x327001_5 _ _ x327002_5 (Int.tmod (rd [t328, t329, t330, t331] x71_4) (wrap64 (a0_0 + 1))) (wrap64 (Int.tdiv (rd [t328, t329, t330, t331] x71_4) (wrap64 (a0_0 + 1)))) (decide ((rd x327002_5 (rd [t328, t329, t330, t331] x71_4)) < a2)) _ _ l3 t334 t335 t336 t339 t342 t343 _ ?side1 ?side2 ?side3 ?side4 A59.out).mono ?_
                           (case side1 => repeat (first | exact (Kd.R_reads' HO_327002.out).2.2 | (with_reducible refine Kd.C_alloc ?_ _) | (with_reducible refine Kd.C_drewN ?_ _) | (with_reducible refine Kd.C_drew ?_)))
                           (case side2 => exact (Kd.R_reads' HO_327002.out).2.1)
                           (case side3 => exact dC_ HR3 HB)
                           (case side4 => exact HC3.out)
                           rintro e w83 ⟨v337, v340, rfl, ho0, ho1, hb⟩
                           have HS6_ := (hb.cell (World.block_lt_of_cell? _ _ (hHeld.2.2.2.2.2.2))).trans (hHeld.2.2.2.2.2.2)
                           refine ⟨_, rfl, ?_⟩
                           have HO338 := Aside0.mk (Kd.R_lower (Kd.R_new' ho0 (Kd.R_lt (dR_ HO_327002))) (below_size (dL3_ HB GE318 GE319 GE326)))
                           replace HO_327002 := Aside0.mk (Kd.R_elder' (dR_ HO_327002) (Kd.R_base ho0) hb)
                           have HO341 := Aside0.mk (Kd.R_lower ho1 (below_size (dL3_ HB GE318 GE319 GE326)))
                           replace BK318 := Aside0.mk (blk_below (g := gb318) (o := .cells #[.int .i64 a0_0, .int .i64 a0_1, .slice A0_2 l0_2.length c0_2] 24 (0, 0)) (dB_ BK318) hb)
                           replace BK319 := Aside0.mk (blk_below (g := gb319) (o := .cells #[.int .i64 x320000_5, .int .i64 x320001_5, .slice none 0 0] 24 (0, 0)) (dB_ BK319) hb)
                           replace BK326 := Aside0.mk (blk_below (g := gb326) (o := .cells #[.int .i64 x327000_5, .int .i64 x327001_5, .slice (some ad332) x327002_5.length co81] 24 (0, 0)) (dB_ BK326) hb)
                           replace HB := Aside0.mk (below_step (dL3_ HB GE318 GE319 GE326) hb)
                           (try clear hb)
                           (try clear hb2)
                           (try clear hk)
                           (try clear hi)
                           (try clear ho0)
                           (try clear ho1)
                           refine hK.out _ _ ⟨(blk_cell BK326.out 0).trans rfl, (blk_cell BK326.out 1).trans rfl, (blk_cell BK326.out 2).trans rfl, (blk_cell BK318.out 0).trans rfl, (blk_cell BK318.out 1).trans rfl, (blk_cell BK318.out 2).trans rfl, HS6_⟩ (fun hHeld => ?_)
                           clear hK K
                           refine norm_ (a' := ?_) ?_ ?_
                           rotate_left
                           ·show Act.put _ (some 101) _ = _
                            simp only [Act.put, sI_, s0_, sS_, i64_w, i32_w]
                            rfl
                           refine pure_ (i := 20) (N := some 81) (v := ?_) (a' := ?_) #[true, true, true, true, true, true, true, true, true, true, true, true, true, true, true, true, true, true, true, true, true, false, false, false, false, false, false, false, false, false] rfl rfl (any_of HT_.out (by kernel_rfl)) (fun _ _ _ h => h) (Or.inl ⟨by rfl, ?_⟩) ?_ ?_
                           rotate_left
                           ·intro w'
                            go_simp
                            with_reducible rfl
                           rotate_left
                           ·simp only [Act.put, sI_, s0_, sS_, i64_w, i32_w]
                            rfl
                           refine pure_ (i := 21) (N := some 102) (v := ?_) (a' := ?_) #[true, true, true, true, true, true, true, true, true, true, true, true, true, true, true, true, true, true, true, true, true, true, false, false, false, false, false, false, false, false] rfl rfl (any_of HT_.out (by kernel_rfl)) (fun _ _ _ h => h) (Or.inl ⟨by rfl, ?_⟩) ?_ ?_
                           rotate_left
                           ·intro w'
                            go_simp
                            with_reducible rfl
                           rotate_left
                           ·simp only [Act.put, sI_, s0_, sS_, i64_w, i32_w]
                            rfl
                           refine pure_ (i := 22) (N := some 103) (v := ?_) (a' := ?_) #[true, true, true, true, true, true, true, true, true, true, true, true, true, true, true, true, true, true, true, true, true, true, true, false, false, false, false, false, false, false] rfl rfl (any_of HT_.out (by kernel_rfl)) (fun _ _ _ h => h) (Or.inl ⟨by rfl, ?_⟩) ?_ ?_
                           rotate_left
                           ·intro w'
                            go_simp
                            with_reducible rfl
                           rotate_left
                           ·simp only [Act.put, sI_, s0_, sS_, i64_w, i32_w]
                            rfl
                           refine pure_ (i := 23) (N := some 104) (v := ?_) (a' := ?_) #[true, true, true, true, true, true, true, true, true, true, true, true, true, true, true, true, true, true, true, true, true, true, true, true, false, false, false, false, false, false] rfl rfl (any_of HT_.out (by kernel_rfl)) (fun _ _ _ h => h) (Or.inl ⟨by rfl, ?_⟩) ?_ ?_
                           rotate_left
                           ·intro w'
                            go_simp
                            with_reducible rfl
                           rotate_left
                           ·simp only [Act.put, sI_, s0_, sS_, i64_w, i32_w]
                            rfl
                           refine pure_ (i := 24) (N := some 105) (v := ?_) (a' := ?_) #[true, true, true, true, true, true, true, true, true, true, true, true, true, true, true, true, true, true, true, true, true, true, true, true, true, false, false, false, false, false] rfl rfl (any_of HT_.out (by kernel_rfl)) (fun _ _ _ h => h) (Or.inl ⟨by rfl, ?_⟩) ?_ ?_
                           rotate_left
                           ·intro w'
                            go_simp
                            with_reducible rfl
                           rotate_left
                           ·simp only [Act.put, sI_, s0_, sS_, i64_w, i32_w]
                            rfl
                           refine one_ (i := 25) (N := some 20) #[true, true, true, true, true, true, true, true, true, true, true, true, true, true, true, true, true, true, true, true, true, true, true, true, true, true, false, false, false, false] rfl rfl (one_of HT_.out (by kernel_rfl)) (by decide) (fun K hK => ?_)
                           refine box_step ?hg (N := 20) ?hd (cs := #[.int .i64 0, .int .i64 0, .slice none 0 0]) (t := 24) ?hr ?_; (case hd => rfl); (case hg => rfl); (case hr => first | (go_simp; done) | (go_simp; rfl))
                           intro gb344 hg w84 hbox hb
                           have HS6_ := (hb.cell (World.block_lt_of_cell? _ _ (hHeld.2.2.2.2.2.2))).trans (hHeld.2.2.2.2.2.2)
                           replace HO_327002 := Aside0.mk (Kd.R_below (dR_ HO_327002) hb)
                           replace HO338 := Aside0.mk (Kd.R_below (dR_ HO338) hb)
                           replace HO341 := Aside0.mk (Kd.R_below (dR_ HO341) hb)
                           have BK344 := Aside0.mk (hbox)
                           have GW344 := Aside0.mk ((dS_ hg (dL3_ HB GE318 GE319 GE326) : w.heap.size ≤ gb344))
                           have GE344 := Aside0.mk ((dS_ hg (dL3_ HB GE318 GE319 GE326) : w.heap.size ≤ gb344))
                           replace HB := Aside0.mk (below_step (dL3_ HB GE318 GE319 GE326) hb)
                           have NB318_344 := Aside0.mk ((by rw [hg]; exact Nat.ne_of_lt (blk_lt (dB_ BK318)) : gb318 ≠ gb344))
                           have NB344_318 := Aside0.mk ((by rw [hg]; exact Nat.ne_of_gt (blk_lt (dB_ BK318)) : gb344 ≠ gb318))
                           replace BK318 := Aside0.mk (blk_below (g := gb318) (o := .cells #[.int .i64 a0_0, .int .i64 a0_1, .slice A0_2 l0_2.length c0_2] 24 (0, 0)) (dB_ BK318) hb)
                           have NB319_344 := Aside0.mk ((by rw [hg]; exact Nat.ne_of_lt (blk_lt (dB_ BK319)) : gb319 ≠ gb344))
                           have NB344_319 := Aside0.mk ((by rw [hg]; exact Nat.ne_of_gt (blk_lt (dB_ BK319)) : gb344 ≠ gb319))
                           replace BK319 := Aside0.mk (blk_below (g := gb319) (o := .cells #[.int .i64 x320000_5, .int .i64 x320001_5, .slice none 0 0] 24 (0, 0)) (dB_ BK319) hb)
                           have NB326_344 := Aside0.mk ((by rw [hg]; exact Nat.ne_of_lt (blk_lt (dB_ BK326)) : gb326 ≠ gb344))
                           have NB344_326 := Aside0.mk ((by rw [hg]; exact Nat.ne_of_gt (blk_lt (dB_ BK326)) : gb344 ≠ gb326))
                           replace BK326 := Aside0.mk (blk_below (g := gb326) (o := .cells #[.int .i64 x327000_5, .int .i64 x327001_5, .slice (some ad332) x327002_5.length co81] 24 (0, 0)) (dB_ BK326) hb)
                           clear hb hbox hg
                           refine hK.out _ _ ⟨(blk_cell BK326.out 0).trans rfl, (blk_cell BK326.out 1).trans rfl, (blk_cell BK326.out 2).trans rfl, (blk_cell BK318.out 0).trans rfl, (blk_cell BK318.out 1).trans rfl, (blk_cell BK318.out 2).trans rfl, HS6_⟩ (fun hHeld => ?_)
                           clear hK K
                           refine norm_ (a' := ?_) ?_ ?_
                           rotate_left
                           ·show Act.put _ (some 20) _ = _
                            simp only [Act.put, sI_, s0_, sS_, i64_w, i32_w]
                            rfl
                           exact norm_ (by simp only [putAll, Act.put, sI_, s0_, sS_]) (hCont (v337, v340, gb344) _ ⟨hHeld, (by (with_reducible repeat (first | apply Kd.R_alloc | apply Kd.R_drewN | apply Kd.R_drew)); exact Kd.R_mono HO338.out (fun _ hk => hk.2)), (dR_ HO341), (by (with_reducible repeat (first | apply Kd.R_alloc | apply Kd.R_drewN | apply Kd.R_drew)); exact Kd.R_mono HO_327002.out (fun _ hk => hk.2)), (dB_ BK318), (dB_ BK319), (dB_ BK326), (dB_ BK344), GW344.out, GE344.out, NB318_344.out, NB344_318.out, NB319_344.out, NB344_319.out, NB326_344.out, NB344_326.out, (dL4_ HB GE318 GE319 GE326 GE344)⟩)
                          ·skip
                           refine box_step ?hg (N := 20) ?hd (cs := #[.int .i64 0, .int .i64 0, .slice none 0 0]) (t := 24) ?hr ?_; (case hd => rfl); (case hg => rfl); (case hr => first | (go_simp; done) | (go_simp; rfl))
                           intro gb344 hg w83 hbox hb
                           have HS6_ := (hb.cell (World.block_lt_of_cell? _ _ (hHeld.2.2.2.2.2.2))).trans (hHeld.2.2.2.2.2.2)
                           replace HO_327002 := Aside0.mk (Kd.R_below (dR_ HO_327002) hb)
                           have BK344 := Aside0.mk (hbox)
                           have GW344 := Aside0.mk ((dS_ hg (dL3_ HB GE318 GE319 GE326) : w.heap.size ≤ gb344))
                           have GE344 := Aside0.mk ((dS_ hg (dL3_ HB GE318 GE319 GE326) : w.heap.size ≤ gb344))
                           replace HB := Aside0.mk (below_step (dL3_ HB GE318 GE319 GE326) hb)
                           have NB318_344 := Aside0.mk ((by rw [hg]; exact Nat.ne_of_lt (blk_lt (dB_ BK318)) : gb318 ≠ gb344))
                           have NB344_318 := Aside0.mk ((by rw [hg]; exact Nat.ne_of_gt (blk_lt (dB_ BK318)) : gb344 ≠ gb318))
                           replace BK318 := Aside0.mk (blk_below (g := gb318) (o := .cells #[.int .i64 a0_0, .int .i64 a0_1, .slice A0_2 l0_2.length c0_2] 24 (0, 0)) (dB_ BK318) hb)
                           have NB319_344 := Aside0.mk ((by rw [hg]; exact Nat.ne_of_lt (blk_lt (dB_ BK319)) : gb319 ≠ gb344))
                           have NB344_319 := Aside0.mk ((by rw [hg]; exact Nat.ne_of_gt (blk_lt (dB_ BK319)) : gb344 ≠ gb319))
                           replace BK319 := Aside0.mk (blk_below (g := gb319) (o := .cells #[.int .i64 x320000_5, .int .i64 x320001_5, .slice none 0 0] 24 (0, 0)) (dB_ BK319) hb)
                           have NB326_344 := Aside0.mk ((by rw [hg]; exact Nat.ne_of_lt (blk_lt (dB_ BK326)) : gb326 ≠ gb344))
                           have NB344_326 := Aside0.mk ((by rw [hg]; exact Nat.ne_of_gt (blk_lt (dB_ BK326)) : gb344 ≠ gb326))
                           replace BK326 := Aside0.mk (blk_below (g := gb326) (o := .cells #[.int .i64 x327000_5, .int .i64 x327001_5, .slice (some ad332) x327002_5.length co81] 24 (0, 0)) (dB_ BK326) hb)
                           clear hb hbox hg
                           refine hK.out _ _ ⟨(blk_cell BK326.out 0).trans rfl, (blk_cell BK326.out 1).trans rfl, (blk_cell BK326.out 2).trans rfl, (blk_cell BK318.out 0).trans rfl, (blk_cell BK318.out 1).trans rfl, (blk_cell BK318.out 2).trans rfl, HS6_⟩ (fun hHeld => ?_)
                           clear hK K
                           refine norm_ (a' := ?_) ?_ ?_
                           rotate_left
                           ·show Act.put _ (some 20) _ = _
                            simp only [Act.put, sI_, s0_, sS_, i64_w, i32_w]
                            rfl
                           refine one_ (i := 19) (N := some 101) #[true, true, true, true, true, true, true, true, true, true, true, true, true, true, true, true, true, true, true, true, false, false, false, false, false, true, false, false, false, false] rfl rfl (one_of HT_.out (by kernel_rfl)) (by decide) (fun K hK => ?_)
                           refine goes_ Try.func20 (by kernel_rfl) rfl #[.agg #[.int .i64 x327000_5, .int .i64 x327001_5, .slice (some ad332) x327002_5.length co81], .int .i64 (Int.tmod (rd [t328, t329, t330, t331] x71_4) (wrap64 (a0_0 + 1))), .int .i64 (wrap64 (Int.tdiv (rd [t328, t329, t330, t331] x71_4) (wrap64 (a0_0 + 1)))), .bool (decide ((rd x327002_5 (rd [t328, t329, t330, t331] x71_4)) < a2)), .slice A3 l3.length c3] (by rfl) rfl rfl tA_ ?_
                           with_reducible refine (hinterlandref02_Shift.calls k5 x327000_5 x327001_5 _ _ x327002_5 (Int.tmod (rd [t328, t329, t330, t331] x71_4) (wrap64 (a0_0 + 1))) (wrap64 (Int.tdiv (rd [t328, t329, t330, t331] x71_4) (wrap64 (a0_0 + 1)))) (decide ((rd x327002_5 (rd [t328, t329, t330, t331] x71_4)) < a2)) _ _ l3 t334 t335 t336 t339 t342 t343 _ ?side1 ?side2 ?side3 ?side4 A59.out).mono ?_
                           (case side1 => repeat (first | exact (Kd.R_reads' HO_327002.out).2.2 | (with_reducible refine Kd.C_alloc ?_ _) | (with_reducible refine Kd.C_drewN ?_ _) | (with_reducible refine Kd.C_drew ?_)))
                           (case side2 => exact (Kd.R_reads' HO_327002.out).2.1)
                           (case side3 => exact dC_ HR3 HB)
                           (case side4 => exact HC3.out)
                           rintro e w84 ⟨v337, v340, rfl, ho0, ho1, hb⟩
                           have HS6_ := (hb.cell (World.block_lt_of_cell? _ _ (hHeld.2.2.2.2.2.2))).trans (hHeld.2.2.2.2.2.2)
                           refine ⟨_, rfl, ?_⟩
                           have HO338 := Aside0.mk (Kd.R_lower (Kd.R_new' ho0 (Kd.R_lt (dR_ HO_327002))) (below_size (dL4_ HB GE318 GE319 GE326 GE344)))
                           replace HO_327002 := Aside0.mk (Kd.R_elder' (dR_ HO_327002) (Kd.R_base ho0) hb)
                           have HO341 := Aside0.mk (Kd.R_lower ho1 (below_size (dL4_ HB GE318 GE319 GE326 GE344)))
                           replace BK318 := Aside0.mk (blk_below (g := gb318) (o := .cells #[.int .i64 a0_0, .int .i64 a0_1, .slice A0_2 l0_2.length c0_2] 24 (0, 0)) (dB_ BK318) hb)
                           replace BK319 := Aside0.mk (blk_below (g := gb319) (o := .cells #[.int .i64 x320000_5, .int .i64 x320001_5, .slice none 0 0] 24 (0, 0)) (dB_ BK319) hb)
                           replace BK326 := Aside0.mk (blk_below (g := gb326) (o := .cells #[.int .i64 x327000_5, .int .i64 x327001_5, .slice (some ad332) x327002_5.length co81] 24 (0, 0)) (dB_ BK326) hb)
                           replace BK344 := Aside0.mk (blk_below (g := gb344) (o := .cells #[.int .i64 0, .int .i64 0, .slice none 0 0] 24 (0, 0)) (dB_ BK344) hb)
                           replace HB := Aside0.mk (below_step (dL4_ HB GE318 GE319 GE326 GE344) hb)
                           (try clear hb)
                           (try clear hb2)
                           (try clear hk)
                           (try clear hi)
                           (try clear ho0)
                           (try clear ho1)
                           refine hK.out _ _ ⟨(blk_cell BK326.out 0).trans rfl, (blk_cell BK326.out 1).trans rfl, (blk_cell BK326.out 2).trans rfl, (blk_cell BK318.out 0).trans rfl, (blk_cell BK318.out 1).trans rfl, (blk_cell BK318.out 2).trans rfl, HS6_⟩ (fun hHeld => ?_)
                           clear hK K
                           refine norm_ (a' := ?_) ?_ ?_
                           rotate_left
                           ·show Act.put _ (some 101) _ = _
                            simp only [Act.put, sI_, s0_, sS_, i64_w, i32_w]
                            rfl
                           refine pure_ (i := 20) (N := some 81) (v := ?_) (a' := ?_) #[true, true, true, true, true, true, true, true, true, true, true, true, true, true, true, true, true, true, true, true, true, false, false, false, false, true, false, false, false, false] rfl rfl (any_of HT_.out (by kernel_rfl)) (fun _ _ _ h => h) (Or.inl ⟨by rfl, ?_⟩) ?_ ?_
                           rotate_left
                           ·intro w'
                            go_simp
                            with_reducible rfl
                           rotate_left
                           ·simp only [Act.put, sI_, s0_, sS_, i64_w, i32_w]
                            rfl
                           refine pure_ (i := 21) (N := some 102) (v := ?_) (a' := ?_) #[true, true, true, true, true, true, true, true, true, true, true, true, true, true, true, true, true, true, true, true, true, true, false, false, false, true, false, false, false, false] rfl rfl (any_of HT_.out (by kernel_rfl)) (fun _ _ _ h => h) (Or.inl ⟨by rfl, ?_⟩) ?_ ?_
                           rotate_left
                           ·intro w'
                            go_simp
                            with_reducible rfl
                           rotate_left
                           ·simp only [Act.put, sI_, s0_, sS_, i64_w, i32_w]
                            rfl
                           refine pure_ (i := 22) (N := some 103) (v := ?_) (a' := ?_) #[true, true, true, true, true, true, true, true, true, true, true, true, true, true, true, true, true, true, true, true, true, true, true, false, false, true, false, false, false, false] rfl rfl (any_of HT_.out (by kernel_rfl)) (fun _ _ _ h => h) (Or.inl ⟨by rfl, ?_⟩) ?_ ?_
                           rotate_left
                           ·intro w'
                            go_simp
                            with_reducible rfl
                           rotate_left
                           ·simp only [Act.put, sI_, s0_, sS_, i64_w, i32_w]
                            rfl
                           refine pure_ (i := 23) (N := some 104) (v := ?_) (a' := ?_) #[true, true, true, true, true, true, true, true, true, true, true, true, true, true, true, true, true, true, true, true, true, true, true, true, false, true, false, false, false, false] rfl rfl (any_of HT_.out (by kernel_rfl)) (fun _ _ _ h => h) (Or.inl ⟨by rfl, ?_⟩) ?_ ?_
                           rotate_left
                           ·intro w'
                            go_simp
                            with_reducible rfl
                           rotate_left
                           ·simp only [Act.put, sI_, s0_, sS_, i64_w, i32_w]
                            rfl
                           refine pure_ (i := 24) (N := some 105) (v := ?_) (a' := ?_) #[true, true, true, true, true, true, true, true, true, true, true, true, true, true, true, true, true, true, true, true, true, true, true, true, true, true, false, false, false, false] rfl rfl (any_of HT_.out (by kernel_rfl)) (fun _ _ _ h => h) (Or.inl ⟨by rfl, ?_⟩) ?_ ?_
                           rotate_left
                           ·intro w'
                            go_simp
                            with_reducible rfl
                           rotate_left
                           ·simp only [Act.put, sI_, s0_, sS_, i64_w, i32_w]
                            rfl
                           exact norm_ (by simp only [putAll, Act.put, sI_, s0_, sS_]) (hCont (v337, v340, gb344) _ ⟨hHeld, (by (with_reducible repeat (first | apply Kd.R_alloc | apply Kd.R_drewN | apply Kd.R_drew)); exact Kd.R_mono HO338.out (fun _ hk => hk.2)), (dR_ HO341), (by (with_reducible repeat (first | apply Kd.R_alloc | apply Kd.R_drewN | apply Kd.R_drew)); exact Kd.R_mono HO_327002.out (fun _ hk => hk.2)), (dB_ BK318), (dB_ BK319), (dB_ BK326), (dB_ BK344), GW344.out, GE344.out, NB318_344.out, NB344_318.out, NB319_344.out, NB344_319.out, NB326_344.out, NB344_326.out, (dL4_ HB GE318 GE319 GE326 GE344)⟩)
                         rintro ⟨v337, v340, gb344⟩ w85 ⟨hS_, h0_, h1_, h2_, h3_, h4_, h5_, h6_, h7_, h8_, h9_, h10_, h11_, h12_, h13_, h14_, h15_⟩
                         have n0_ : Aside0 (Kd.R (Kd.int .i64) 3 w85 w.heap.size (fun k_ => some k_ ≠ (.slice (some ad332) x327002_5.length co81 : Value).ownBlock) v337 t336) := ⟨h0_⟩
                         have n1_ : Aside0 (Kd.R k36 36 w85 w.heap.size (fun _ => True) v340 t339) := ⟨h1_⟩
                         have n2_ : Aside0 (Kd.R (Kd.int .i64) 3 w85 w.heap.size (fun k_ => some k_ ≠ (v337 : Value).ownBlock) (.slice (some ad332) x327002_5.length co81) x327002_5) := ⟨h2_⟩
                         have n3_ : Aside0 (w85.heap[gb318]? = some (.cells #[.int .i64 a0_0, .int .i64 a0_1, .slice A0_2 l0_2.length c0_2] 24 (0, 0))) := ⟨h3_⟩
                         have n4_ : Aside0 (w85.heap[gb319]? = some (.cells #[.int .i64 x320000_5, .int .i64 x320001_5, .slice none 0 0] 24 (0, 0))) := ⟨h4_⟩
                         have n5_ : Aside0 (w85.heap[gb326]? = some (.cells #[.int .i64 x327000_5, .int .i64 x327001_5, .slice (some ad332) x327002_5.length co81] 24 (0, 0))) := ⟨h5_⟩
                         have n6_ : Aside0 (w85.heap[gb344]? = some (.cells #[.int .i64 0, .int .i64 0, .slice none 0 0] 24 (0, 0))) := ⟨h6_⟩
                         have n7_ : Aside0 (w.heap.size ≤ gb344) := ⟨h7_⟩
                         have n8_ : Aside0 (w.heap.size ≤ gb344) := ⟨h8_⟩
                         have n9_ : Aside0 (gb318 ≠ gb344) := ⟨h9_⟩
                         have n10_ : Aside0 (gb344 ≠ gb318) := ⟨h10_⟩
                         have n11_ : Aside0 (gb319 ≠ gb344) := ⟨h11_⟩
                         have n12_ : Aside0 (gb344 ≠ gb319) := ⟨h12_⟩
                         have n13_ : Aside0 (gb326 ≠ gb344) := ⟨h13_⟩
                         have n14_ : Aside0 (gb344 ≠ gb326) := ⟨h14_⟩
                         have n15_ : Aside0 (Below w.heap.size w w85) := ⟨h15_⟩
                         clear HO_327002
                         clear BK318
                         clear BK319
                         clear BK326
                         clear HB
                         clear h0_ h1_ h2_ h3_ h4_ h5_ h6_ h7_ h8_ h9_ h10_ h11_ h12_ h13_ h14_ h15_
                         have HO338 := n0_
                         have HO341 := n1_
                         have HO_327002 := n2_
                         have BK318 := n3_
                         have BK319 := n4_
                         have BK326 := n5_
                         have BK344 := n6_
                         have GW344 := n7_
                         have GE344 := n8_
                         have NB318_344 := n9_
                         have NB344_318 := n10_
                         have NB319_344 := n11_
                         have NB344_319 := n12_
                         have NB326_344 := n13_
                         have NB344_326 := n14_
                         have HB := n15_
                         clear n0_ n1_ n2_ n3_ n4_ n5_ n6_ n7_ n8_ n9_ n10_ n11_ n12_ n13_ n14_ n15_
                         have hHeld : w85.cell? ⟨gb326, 0, none⟩ = some (.int .i64 x327000_5) ∧ w85.cell? ⟨gb326, 1, none⟩ = some (.int .i64 x327001_5) ∧ w85.cell? ⟨gb326, 2, none⟩ = some (.slice (some ad332) x327002_5.length co81) ∧ w85.cell? ⟨gb318, 0, none⟩ = some (.int .i64 a0_0) ∧ w85.cell? ⟨gb318, 1, none⟩ = some (.int .i64 a0_1) ∧ w85.cell? ⟨gb318, 2, none⟩ = some (.slice A0_2 l0_2.length c0_2) ∧ w85.cell? (ad332.add ((rd [t328, t329, t330, t331] x71_4)).toNat) = some (.int .i64 (rd x327002_5 (rd [t328, t329, t330, t331] x71_4))) := hS_
                         obtain ⟨Ao88, co88, eo88⟩ := Kd.R_slice HO338.out
                         (first | subst eo88 | (injection eo88 with f1_ f2_ f3_; have f4_ := f1_.symm; have f5_ := f3_.symm; clear f1_ f2_ f3_; subst f4_; subst f5_))
                         refine norm_ (a' := ?_) ?_ ?_
                         rotate_left
                         ·simp only [putAll, Act.put, sI_, s0_, sS_]
                          rfl
                         refine one_ (i := 26) (N := none) #[true, true, true, true, true, true, true, true, true, true, true, true, true, true, true, true, true, true, true, true, true, true, true, true, true, true, true, false, false, false] rfl rfl (one_of HT_.out (by kernel_rfl)) (by decide) (fun K hK => ?_)
                         have hs86 : w85.cell? ⟨gb344, 0, none⟩ = some (.int .i64 0) := (blk_cell BK344.out 0).trans rfl
                         have hfs86 := blk_frozen BK344.out 0
                         have hns86_0 := NB318_344.out
                         have hns86_1 := NB319_344.out
                         have hns86_2 := NB326_344.out
                         have hms86_0 := NB344_318.out
                         have hms86_1 := NB344_319.out
                         have hms86_2 := NB344_326.out
                         have hs87 : w85.cell? ⟨gb344, 1, none⟩ = some (.int .i64 0) := (blk_cell BK344.out 1).trans rfl
                         have hfs87 := blk_frozen BK344.out 1
                         have hns87_0 := NB318_344.out
                         have hns87_1 := NB319_344.out
                         have hns87_2 := NB326_344.out
                         have hms87_0 := NB344_318.out
                         have hms87_1 := NB344_319.out
                         have hms87_2 := NB344_326.out
                         have hs89 : w85.cell? ⟨gb344, 2, none⟩ = some (.slice none 0 0) := (blk_cell BK344.out 2).trans rfl
                         have hfs89 := blk_frozen BK344.out 2
                         have hns89_0 := NB318_344.out
                         have hns89_1 := NB319_344.out
                         have hns89_2 := NB326_344.out
                         have hms89_0 := NB344_318.out
                         have hms89_1 := NB344_319.out
                         have hms89_2 := NB344_326.out
                         refine skip_ (w1 := ?_) (by rfl) rfl ?_ ?_
                         rotate_left
                         ·go_simp
                          rfl
                         refine hK.out _ _ ⟨((cell_far (p := ⟨gb344, _, none⟩) NB326_344.out _).trans (((cell_far (p := ⟨gb344, _, none⟩) NB326_344.out _).trans (((cell_far (p := ⟨gb344, _, none⟩) NB326_344.out _).trans (hHeld.1)))))), ((cell_far (p := ⟨gb344, _, none⟩) NB326_344.out _).trans (((cell_far (p := ⟨gb344, _, none⟩) NB326_344.out _).trans (((cell_far (p := ⟨gb344, _, none⟩) NB326_344.out _).trans (hHeld.2.1)))))), ((cell_far (p := ⟨gb344, _, none⟩) NB326_344.out _).trans (((cell_far (p := ⟨gb344, _, none⟩) NB326_344.out _).trans (((cell_far (p := ⟨gb344, _, none⟩) NB326_344.out _).trans (hHeld.2.2.1)))))), ((cell_far (p := ⟨gb344, _, none⟩) NB318_344.out _).trans (((cell_far (p := ⟨gb344, _, none⟩) NB318_344.out _).trans (((cell_far (p := ⟨gb344, _, none⟩) NB318_344.out _).trans (hHeld.2.2.2.1)))))), ((cell_far (p := ⟨gb344, _, none⟩) NB318_344.out _).trans (((cell_far (p := ⟨gb344, _, none⟩) NB318_344.out _).trans (((cell_far (p := ⟨gb344, _, none⟩) NB318_344.out _).trans (hHeld.2.2.2.2.1)))))), ((cell_far (p := ⟨gb344, _, none⟩) NB318_344.out _).trans (((cell_far (p := ⟨gb344, _, none⟩) NB318_344.out _).trans (((cell_far (p := ⟨gb344, _, none⟩) NB318_344.out _).trans (hHeld.2.2.2.2.2.1)))))), ((cell_far (p := ⟨gb344, _, none⟩) (by first | exact Kd.own_blk (Kd.R_ne HO_327002.out BK344.out (by decide)) | (rw [add_block]; exact Kd.own_blk (Kd.R_ne HO_327002.out BK344.out (by decide))) | (show (Addr.add _ _).block ≠ _; rw [add_block]; exact Kd.own_blk (Kd.R_ne HO_327002.out BK344.out (by decide))) | (dsimp only; exact Kd.own_blk (Kd.R_ne HO_327002.out BK344.out (by decide)))) _).trans (((cell_far (p := ⟨gb344, _, none⟩) (by first | exact Kd.own_blk (Kd.R_ne HO_327002.out BK344.out (by decide)) | (rw [add_block]; exact Kd.own_blk (Kd.R_ne HO_327002.out BK344.out (by decide))) | (show (Addr.add _ _).block ≠ _; rw [add_block]; exact Kd.own_blk (Kd.R_ne HO_327002.out BK344.out (by decide))) | (dsimp only; exact Kd.own_blk (Kd.R_ne HO_327002.out BK344.out (by decide)))) _).trans (((cell_far (p := ⟨gb344, _, none⟩) (by first | exact Kd.own_blk (Kd.R_ne HO_327002.out BK344.out (by decide)) | (rw [add_block]; exact Kd.own_blk (Kd.R_ne HO_327002.out BK344.out (by decide))) | (show (Addr.add _ _).block ≠ _; rw [add_block]; exact Kd.own_blk (Kd.R_ne HO_327002.out BK344.out (by decide))) | (dsimp only; exact Kd.own_blk (Kd.R_ne HO_327002.out BK344.out (by decide)))) _).trans (hHeld.2.2.2.2.2.2))))))⟩ (fun hHeld => ?_)
                         clear hK K
                         refine pure_ (i := 27) (N := some 21) (v := ?_) (a' := ?_) #[true, true, true, true, true, true, true, true, true, true, true, true, true, true, true, true, true, true, true, true, true, true, true, true, true, true, true, true, false, false] rfl rfl (any_of HT_.out (by kernel_rfl)) (fun _ _ _ h => h) (Or.inl ⟨by rfl, ?_⟩) ?_ ?_
                         rotate_left
                         ·intro w'
                          go_simp
                          with_reducible rfl
                         rotate_left
                         ·simp only [Act.put, sI_, s0_, sS_, i64_w, i32_w]
                          rfl
                         refine pure_ (i := 28) (N := some 22) (v := ?_) (a' := ?_) #[true, true, true, true, true, true, true, true, true, true, true, true, true, true, true, true, true, true, true, true, true, true, true, true, true, true, true, true, true, false] rfl rfl (any_of HT_.out (by kernel_rfl)) (fun _ _ _ h => h) (Or.inl ⟨by rfl, ?_⟩) ?_ ?_
                         rotate_left
                         ·intro w'
                          go_simp
                          with_reducible rfl
                         rotate_left
                         ·simp only [Act.put, sI_, s0_, sS_, i64_w, i32_w]
                          rfl
                         refine pure_ (i := 29) (N := some 23) (v := ?_) (a' := ?_) #[true, true, true, true, true, true, true, true, true, true, true, true, true, true, true, true, true, true, true, true, true, true, true, true, true, true, true, true, true, true] rfl rfl (any_of HT_.out (by kernel_rfl)) (fun _ _ _ h => h) (Or.inl ⟨by rfl, ?_⟩) ?_ ?_
                         rotate_left
                         ·intro w'
                          go_simp
                          with_reducible rfl
                         rotate_left
                         ·simp only [Act.put, sI_, s0_, sS_, i64_w, i32_w]
                          rfl
                         refine done_ (done_of HT_.out (by kernel_rfl)) ?_
                         have hnb90 := NB319_318.out
                         have hnc90 := NB318_319.out
                         have hnb91 := NB319_344.out
                         have hnc91 := NB344_319.out
                         obtain ⟨hcz92_0, hcz92_1, hcz92_2, hfz92_0, hfz92_1, hfz92_2⟩ := cs3_ BK319.out
                         try go_wp2
                         refine bodyPost_ret (results_ctt rfl _ _ gb319 24 #[.int .i64 0, .int .i64 0, .slice none 0 0] (0, 0) _ rfl (by (with_reducible repeat (first | refine blk_drewN ?_ _ | refine blk_drew ?_ | refine blk_alloc ?_ _)); refine blk_put (cs := #[.int .i64 0, .int .i64 0, .slice none 0 0]) ?_ 2 _ rfl; (with_reducible repeat (first | refine blk_drewN ?_ _ | refine blk_drew ?_ | refine blk_alloc ?_ _)); refine blk_put (cs := #[.int .i64 0, .int .i64 x320001_5, .slice none 0 0]) ?_ 1 _ rfl; (with_reducible repeat (first | refine blk_drewN ?_ _ | refine blk_drew ?_ | refine blk_alloc ?_ _)); refine blk_put (cs := #[.int .i64 x320000_5, .int .i64 x320001_5, .slice none 0 0]) ?_ 0 _ rfl; (with_reducible repeat (first | refine blk_drewN ?_ _ | refine blk_drew ?_ | refine blk_alloc ?_ _)); refine blk_far ?_ NB319_344.out _; (with_reducible repeat (first | refine blk_drewN ?_ _ | refine blk_drew ?_ | refine blk_alloc ?_ _)); refine blk_far ?_ NB319_344.out _; (with_reducible repeat (first | refine blk_drewN ?_ _ | refine blk_drew ?_ | refine blk_alloc ?_ _)); refine blk_far ?_ NB319_344.out _; (with_reducible repeat (first | refine blk_drewN ?_ _ | refine blk_drew ?_ | refine blk_alloc ?_ _)); exact BK319.out) Try.underlying24 rfl (by kernel_rfl)) rfl ?_
                         exact ⟨_, tE_, by first | exact Kd.R_nil _ _ _ _ _ | exact Kd.N_nil _ _ _ _ _ | exact Kd.V_nil _ _ _ _ _ | exact Kd.Q_nil _ _ _ _ _ | exact Kd.S_nil _ _ _ _ _, dL4_ HB GE318 GE319 GE326 GE344⟩
                     ·rw [if_neg c52] at H
                      exact absurd H (by simp)
                    ·rw [if_neg c51] at H
                     exact absurd H (by simp)
                 ·rw [if_neg c49] at H
                  exact absurd H (by simp)
                ·rw [if_neg c48] at H
                 have c48b0 : decide (x71_4 < 4) = false := decide_eq_false c48
                 clear c48
                 have H' := Aside0.mk H
                 clear H
                 go_wp2
                 go_roundg k4
                 case measure => have := HJ6.out; have := HK2.out; have := HK3.out; have := HK4.out; omega
                 case rel => exact ⟨(x15_4), (wrap64 (x64_3 + 1)), (x320000_4), (x320001_4), (x327000_4), (x327001_4), (x327002_4), (u327002), tS_, tS_, H', ⟨by have := HJ6.out; have := HK2.out; have := HK3.out; have := HK4.out; omega⟩, ⟨dR_ HO_327002⟩, ⟨dB_ BK318⟩, ⟨dB_ BK319⟩, ⟨dB_ BK326⟩, ⟨dL3_ HB GE318 GE319 GE326⟩⟩
             ·rw [if_neg c42] at H
              exact absurd H (by simp)
            ·rw [if_neg c41] at H
             exact absurd H (by simp)
           ·rw [if_neg c40] at H
            have c40b0 : decide (x64_3 < (l1.length : Int)) = false := decide_eq_false c40
            clear c40
            simp only [Option.some.injEq, Prod.mk.injEq] at H
            obtain ⟨rfl, rfl, rfl, rfl, rfl⟩ := H
            have hnb93 := NB326_318.out
            have hnc93 := NB318_326.out
            have hnb94 := NB326_319.out
            have hnc94 := NB319_326.out
            obtain ⟨hcz95_0, hcz95_1, hcz95_2, hfz95_0, hfz95_1, hfz95_2⟩ := cs3_ BK326.out
            have hnb96 := NB319_318.out
            have hnc96 := NB318_319.out
            obtain ⟨hcz97_0, hcz97_1, hcz97_2, hfz97_0, hfz97_1, hfz97_2⟩ := cs3_ BK319.out
            obtain ⟨Ao98, co98, eo98⟩ := Kd.R_slice HO_327002.out
            subst eo98
            go_wp2
            refine bodyPost_ret (results_ctt rfl _ _ gb319 24 #[.int .i64 x327000_3, .int .i64 x327001_3, .slice Ao98 x327002_3.length co98] (0, 0) _ rfl (by (with_reducible repeat (first | refine blk_drewN ?_ _ | refine blk_drew ?_ | refine blk_alloc ?_ _)); refine blk_put (cs := #[.int .i64 x327000_3, .int .i64 x327001_3, .slice none 0 0]) ?_ 2 _ rfl; (with_reducible repeat (first | refine blk_drewN ?_ _ | refine blk_drew ?_ | refine blk_alloc ?_ _)); refine blk_put (cs := #[.int .i64 x327000_3, .int .i64 x320001_3, .slice none 0 0]) ?_ 1 _ rfl; (with_reducible repeat (first | refine blk_drewN ?_ _ | refine blk_drew ?_ | refine blk_alloc ?_ _)); refine blk_put (cs := #[.int .i64 x320000_3, .int .i64 x320001_3, .slice none 0 0]) ?_ 0 _ rfl; (with_reducible repeat (first | refine blk_drewN ?_ _ | refine blk_drew ?_ | refine blk_alloc ?_ _)); exact BK319.out) Try.underlying24 rfl (by kernel_rfl)) rfl ?_
            exact ⟨_, tE_, by (with_reducible repeat (first | apply Kd.R_alloc | apply Kd.R_drewN | apply Kd.R_drew)); exact Kd.R_mono (Kd.R_far (p := ⟨gb319, 2, none⟩) (Kd.R_far (p := ⟨gb319, 1, none⟩) (Kd.R_far (p := ⟨gb319, 0, none⟩) (Kd.R_types HO_327002.out BK319.out (by decide)) (fun _ hk => hk.2) (.int .i64 x327000_3)) (fun _ hk => hk.2) (.int .i64 x327001_3)) (fun _ hk => hk.2) (.slice Ao98 x327002_3.length co98)) (fun _ hk => trivial), dL3_ HB GE318 GE319 GE326⟩
        ·rw [if_neg c30] at H
         exact absurd H (by simp)
 ·rw [if_neg c6] at H
  have c6b0 : (t320 == 0) = false := beq_eq_false_iff_ne.mpr c6
  have c6b1 : (t320 != 0) = true := bne_iff_ne.mpr c6
  simp only [Option.some.injEq, Prod.mk.injEq] at H
  obtain ⟨rfl, rfl, rfl, rfl, rfl⟩ := H
  go_enter Try.func24, Try.ntmps24
  go_wp2_with (first | ((with_reducible refine gate_dst (N := 4) rfl ?_); (try (refine gate_guard (by rfl) ?_; dsimp only)); refine box_event ?hg (N := 4) ?hd (cs := #[.int .i64 a0_0, .int .i64 a0_1, .slice A0_2 l0_2.length c0_2]) (t := 24) ?hr ?_; (case hd => rfl); (case hg => rfl); (case hr => first | (go_simp; done) | (go_simp; rfl)); intro gb318 hg w99 hbox hb; have BK318 := Aside0.mk (hbox); have GW318 := Aside0.mk ((dS_ hg (dL_ HB) : w.heap.size ≤ gb318)); have GE318 := Aside0.mk ((dS_ hg (dL_ HB) : w.heap.size ≤ gb318)); replace HB := Aside0.mk (below_step (dL_ HB) hb); clear hb hbox hg) | ((with_reducible refine gate_dst (N := 8) rfl ?_); (try (refine gate_guard (by rfl) ?_; dsimp only)); refine box_event ?hg (N := 8) ?hd (cs := #[.int .i64 0, .int .i64 0, .slice none 0 0]) (t := 24) ?hr ?_; (case hd => rfl); (case hg => rfl); (case hr => first | (go_simp; done) | (go_simp; rfl)); intro gb319 hg w100 hbox hb; have BK319 := Aside0.mk (hbox); have GW319 := Aside0.mk ((dS_ hg (dL1_ HB GE318) : w.heap.size ≤ gb319)); have GE319 := Aside0.mk ((dS_ hg (dL1_ HB GE318) : w.heap.size ≤ gb319)); replace HB := Aside0.mk (below_step (dL1_ HB GE318) hb); have NB318_319 := Aside0.mk ((by rw [hg]; exact Nat.ne_of_lt (blk_lt (dB_ BK318)) : gb318 ≠ gb319)); have NB319_318 := Aside0.mk ((by rw [hg]; exact Nat.ne_of_gt (blk_lt (dB_ BK318)) : gb319 ≠ gb318)); replace BK318 := Aside0.mk (blk_below (g := gb318) (o := .cells #[.int .i64 a0_0, .int .i64 a0_1, .slice A0_2 l0_2.length c0_2] 24 (0, 0)) (dB_ BK318) hb); clear hb hbox hg; have hnb101 := NB318_319.out; have hnc101 := NB319_318.out; obtain ⟨hcz102_0, hcz102_1, hcz102_2, hfz102_0, hfz102_1, hfz102_2⟩ := cs3_ BK318.out) | ((with_reducible refine gate_callee (f := 18) rfl ?_); refine goesL_ (some 25) rfl rfl Try.func18 (by kernel_rfl) rfl #[.agg #[.int .i64 a0_0, .int .i64 a0_1, .slice A0_2 l0_2.length c0_2]] rfl tA_ ?_; (with_reducible refine (hinterlandref02_Validate.calls k a0_0 a0_1 _ _ l0_2 t320 _ ?side1 ?side2 A5.out).mono ?_); (case side1 => exact dC_ HR0_2 HB); (case side2 => exact HC0_2.out); rintro e w103 ⟨rfl, hb⟩; refine ⟨_, rfl, ?_⟩; replace BK318 := Aside0.mk (blk_below (g := gb318) (o := .cells #[.int .i64 a0_0, .int .i64 a0_1, .slice A0_2 l0_2.length c0_2] 24 (0, 0)) (dB_ BK318) hb); replace BK319 := Aside0.mk (blk_below (g := gb319) (o := .cells #[.int .i64 0, .int .i64 0, .slice none 0 0] 24 (0, 0)) (dB_ BK319) hb); replace HB := Aside0.mk (below_step (dL2_ HB GE318 GE319) hb); obtain ⟨hcz104_0, hcz104_1, hcz104_2, hfz104_0, hfz104_1, hfz104_2⟩ := cs3_ BK319.out))
  refine bodyPost_ret (results_ctt rfl _ _ gb319 24 #[.int .i64 0, .int .i64 0, .slice none 0 0] (0, 0) _ rfl (by (with_reducible repeat (first | refine blk_drewN ?_ _ | refine blk_drew ?_ | refine blk_alloc ?_ _)); refine blk_put (cs := #[.int .i64 0, .int .i64 0, .slice none 0 0]) ?_ 2 _ rfl; (with_reducible repeat (first | refine blk_drewN ?_ _ | refine blk_drew ?_ | refine blk_alloc ?_ _)); refine blk_put (cs := #[.int .i64 0, .int .i64 0, .slice none 0 0]) ?_ 1 _ rfl; (with_reducible repeat (first | refine blk_drewN ?_ _ | refine blk_drew ?_ | refine blk_alloc ?_ _)); refine blk_put (cs := #[.int .i64 0, .int .i64 0, .slice none 0 0]) ?_ 0 _ rfl; (with_reducible repeat (first | refine blk_drewN ?_ _ | refine blk_drew ?_ | refine blk_alloc ?_ _)); exact BK319.out) Try.underlying24 rfl (by kernel_rfl)) rfl ?_
  exact ⟨_, tE_, by first | exact Kd.R_nil _ _ _ _ _ | exact Kd.N_nil _ _ _ _ _ | exact Kd.V_nil _ _ _ _ _ | exact Kd.Q_nil _ _ _ _ _ | exact Kd.S_nil _ _ _ _ _, dL2_ HB GE318 GE319⟩

end Go.Proofs.Ytchflcnegpnkkaa.Q
