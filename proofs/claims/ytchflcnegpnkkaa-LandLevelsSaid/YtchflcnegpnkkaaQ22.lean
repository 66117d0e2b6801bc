-- PRINTED by print.py (a twelfth state) out of the translation. Not trusted: Lean checks it.
import Derived.Test.YtchflcnegpnkkaaPrs
import Derived.Test.YtchflcnegpnkkaaArr2
import Derived.Test.YtchflcnegpnkkaaQ0
import Derived.Test.YtchflcnegpnkkaaQ5
import Derived.Test.YtchflcnegpnkkaaQ6
import Derived.Test.YtchflcnegpnkkaaQ8
namespace Go.Proofs.Ytchflcnegpnkkaa.Q
open Go.RowKit Go.Proofs.YtchflcnegpnkkaaPrs Go.Proofs.YtchflcnegpnkkaaOwn Go.Proofs.YtchflcnegpnkkaaW.PrintWords Go.Proofs.YtchflcnegpnkkaaW.PrintLast Go.Proofs.YtchflcnegpnkkaaW.PrintMore
open List renaming setIfInBounds_toArray → sI_, set_cons_zero → s0_, set_cons_succ → sS_
attribute [local go_sem] max2_int min2_int max_two min_two max_three min_three max_four min_four   -- for this text's walks alone
set_option linter.unusedVariables false
set_option linter.unusedSimpArgs false

/-! ### land_Level: function 23 -/
mutual
def land_Level.j0 : Nat → List Int → Int → List Int → Bool → Int → Int → List Int → Option (Int × Int × List Int × Int × Int)
  | 0, _, _, _, _, _, _, _ => none
  | k + 1, x1, x2, x3, x43, x296000, x296001, x296002 => if x43 = true then (some (0, 0, ([] : List Int), 0, 1)) else (land_Level.l0 k x1 x2 x3 x1 (x1.length : Int) 0 x296000 x296001 x296002)
def land_Level.l0 : Nat → List Int → Int → List Int → List Int → Int → Int → Int → Int → List Int → Option (Int × Int × List Int × Int × Int)
  | 0, _, _, _, _, _, _, _, _, _ => none
  | k + 1, x1, x2, x3, x45, x46, x47, x296000, x296001, x296002 => if x47 < x46 then (if 0 ≤ x47 then (if x47 < (x45.length : Int) then ((land_isTile.f x296000 x296001 x296002 (rd x45 x47)).bind fun t299 => (if t299 = true then (land_Level.l0 k x1 x2 x3 x45 x46 (wrap64 (x47 + 1)) x296000 x296001 x296002) else (some (0, 0, ([] : List Int), 0, 2)))) else (none)) else (none)) else (if ([] : List Int).length + x296002.length < 17592186044416 then (land_Level.l1 k x2 x3 0 x1 (x1.length : Int) 0 x296000 x296001 x296002 x296000 x296001 (([] : List Int) ++ x296002)) else (none))
def land_Level.l1 : Nat → Int → List Int → Int → List Int → Int → Int → Int → Int → List Int → Int → Int → List Int → Option (Int × Int × List Int × Int × Int)
  | 0, _, _, _, _, _, _, _, _, _, _, _, _ => none
  | k + 1, x2, x3, x15, x65, x66, x67, x296000, x296001, x296002, x304000, x304001, x304002 => if x67 < x66 then (if 0 ≤ x67 then (if x67 < (x65.length : Int) then (if x296000 = 0 then (none) else (land_Level.l2 k x2 x3 x15 x65 x66 x67 0 x296000 x296001 x296002 x304000 x304001 x304002 (Int.tmod (rd x65 x67) x296000) (wrap64 (Int.tdiv (rd x65 x67) x296000)) (wrap64 ((Int.tmod (rd x65 x67) x296000) + 1)) (wrap64 (Int.tdiv (rd x65 x67) x296000)) (wrap64 ((Int.tmod (rd x65 x67) x296000) + 1)) (wrap64 ((wrap64 (Int.tdiv (rd x65 x67) x296000)) + 1)) (Int.tmod (rd x65 x67) x296000) (wrap64 ((wrap64 (Int.tdiv (rd x65 x67) x296000)) + 1)))) else (none)) else (none)) else (some (x304000, x304001, x304002, x15, 0))
def land_Level.l2 : Nat → Int → List Int → Int → List Int → Int → Int → Int → Int → Int → List Int → Int → Int → List Int → Int → Int → Int → Int → Int → Int → Int → Int → Option (Int × Int × List Int × Int × Int)
  | 0, _, _, _, _, _, _, _, _, _, _, _, _, _, _, _, _, _, _, _, _, _ => none
  | k + 1, x2, x3, x15, x65, x66, x67, x96, x296000, x296001, x296002, x304000, x304001, x304002, x100095000, x100095001, x100095002, x100095003, x100095004, x100095005, x100095006, x100095007 => if x96 < 4 then (if 0 ≤ x96 then (land_Level.l3 k x2 x3 x15 x65 x66 x67 x96 x296000 x296001 x296002 x304000 x304001 x304002 (rd [x100095000, x100095002, x100095004, x100095006] x96) (rd [x100095001, x100095003, x100095005, x100095007] x96) x100095000 x100095001 x100095002 x100095003 x100095004 x100095005 x100095006 x100095007) else (none)) else (land_Level.l1 k x2 x3 x15 x65 x66 (wrap64 (x67 + 1)) x296000 x296001 x296002 x304000 x304001 x304002)
def land_Level.l3 : Nat → Int → List Int → Int → List Int → Int → Int → Int → Int → Int → List Int → Int → Int → List Int → Int → Int → Int → Int → Int → Int → Int → Int → Int → Int → Option (Int × Int × List Int × Int × Int)
  | 0, _, _, _, _, _, _, _, _, _, _, _, _, _, _, _, _, _, _, _, _, _, _, _ => none
  | k + 1, x2, x3, x15, x65, x66, x67, x96, x296000, x296001, x296002, x304000, x304001, x304002, x306000, x306001, x100095000, x100095001, x100095002, x100095003, x100095004, x100095005, x100095006, x100095007 => if 0 ≤ (wrap64 ((wrap64 (x306001 * (wrap64 (x296000 + 1)))) + x306000)) then (if (wrap64 ((wrap64 (x306001 * (wrap64 (x296000 + 1)))) + x306000)) < (x304002.length : Int) then (if (rd x304002 (wrap64 ((wrap64 (x306001 * (wrap64 (x296000 + 1)))) + x306000))) = x2 then (land_Level.l2 k x2 x3 x15 x65 x66 x67 (wrap64 (x96 + 1)) x296000 x296001 x296002 x304000 x304001 x304002 x100095000 x100095001 x100095002 x100095003 x100095004 x100095005 x100095006 x100095007) else ((land_Shift.f k x304000 x304001 x304002 x306000 x306001 (decide ((rd x304002 (wrap64 ((wrap64 (x306001 * (wrap64 (x296000 + 1)))) + x306000))) < x2)) x3).bind fun bt307 => (if bt307.2.2.2.2.2 = 0 then (land_Level.l3 k x2 x3 (wrap64 (x15 + bt307.2.2.2.2.1)) x65 x66 x67 x96 x296000 x296001 x296002 bt307.1 bt307.2.1 bt307.2.2.1 x306000 x306001 x100095000 x100095001 x100095002 x100095003 x100095004 x100095005 x100095006 x100095007) else (some (0, 0, ([] : List Int), 0, bt307.2.2.2.2.2))))) else (none)) else (none)
end
def land_Level.f (k : Nat) (a0_0 : Int) (a0_1 : Int) (l0_2 : List Int) (l1 : List Int) (a2 : Int) (l3 : List Int) : Option (Int × Int × List Int × Int × Int) := (land_Validate.f k a0_0 a0_1 l0_2).bind fun t297 => (if t297 = 0 then (if a2 < 0 then (land_Level.j0 k l1 a2 l3 true a0_0 a0_1 l0_2) else (if a2 > 15 then (land_Level.j0 k l1 a2 l3 true a0_0 a0_1 l0_2) else (land_Level.j0 k l1 a2 l3 (decide ((l1.length : Int) > 1000)) a0_0 a0_1 l0_2))) else (some (0, 0, ([] : List Int), 0, t297)))
theorem land_Level.mono_l : ∀ k, (∀ y0 y1 y2 y3 y4 y5 y6, LeO (land_Level.j0 k y0 y1 y2 y3 y4 y5 y6) (land_Level.j0 (k + 1) y0 y1 y2 y3 y4 y5 y6)) ∧ (∀ y0 y1 y2 y3 y4 y5 y6 y7 y8, LeO (land_Level.l0 k y0 y1 y2 y3 y4 y5 y6 y7 y8) (land_Level.l0 (k + 1) y0 y1 y2 y3 y4 y5 y6 y7 y8)) ∧ (∀ y0 y1 y2 y3 y4 y5 y6 y7 y8 y9 y10 y11, LeO (land_Level.l1 k y0 y1 y2 y3 y4 y5 y6 y7 y8 y9 y10 y11) (land_Level.l1 (k + 1) y0 y1 y2 y3 y4 y5 y6 y7 y8 y9 y10 y11)) ∧ (∀ y0 y1 y2 y3 y4 y5 y6 y7 y8 y9 y10 y11 y12 y13 y14 y15 y16 y17 y18 y19 y20, LeO (land_Level.l2 k y0 y1 y2 y3 y4 y5 y6 y7 y8 y9 y10 y11 y12 y13 y14 y15 y16 y17 y18 y19 y20) (land_Level.l2 (k + 1) y0 y1 y2 y3 y4 y5 y6 y7 y8 y9 y10 y11 y12 y13 y14 y15 y16 y17 y18 y19 y20)) ∧ (∀ y0 y1 y2 y3 y4 y5 y6 y7 y8 y9 y10 y11 y12 y13 y14 y15 y16 y17 y18 y19 y20 y21 y22, LeO (land_Level.l3 k y0 y1 y2 y3 y4 y5 y6 y7 y8 y9 y10 y11 y12 y13 y14 y15 y16 y17 y18 y19 y20 y21 y22) (land_Level.l3 (k + 1) y0 y1 y2 y3 y4 y5 y6 y7 y8 y9 y10 y11 y12 y13 y14 y15 y16 y17 y18 y19 y20 y21 y22))
  | 0 => ⟨fun _ _ _ _ _ _ _ r h => by simp [land_Level.j0] at h, fun _ _ _ _ _ _ _ _ _ r h => by simp [land_Level.l0] at h, fun _ _ _ _ _ _ _ _ _ _ _ _ r h => by simp [land_Level.l1] at h, fun _ _ _ _ _ _ _ _ _ _ _ _ _ _ _ _ _ _ _ _ _ r h => by simp [land_Level.l2] at h, fun _ _ _ _ _ _ _ _ _ _ _ _ _ _ _ _ _ _ _ _ _ _ _ r h => by simp [land_Level.l3] at h⟩
  | k + 1 => by
    obtain ⟨ih0, ih1, ih2, ih3, ih4⟩ := land_Level.mono_l k
    refine ⟨?_, ?_, ?_, ?_, ?_⟩
    · intro y0 y1 y2 y3 y4 y5 y6
      unfold land_Level.j0
      repeat' first
      | (with_reducible first | exact ih0 _ _ _ _ _ _ _ | exact ih1 _ _ _ _ _ _ _ _ _ | exact ih2 _ _ _ _ _ _ _ _ _ _ _ _ | exact ih3 _ _ _ _ _ _ _ _ _ _ _ _ _ _ _ _ _ _ _ _ _ | exact ih4 _ _ _ _ _ _ _ _ _ _ _ _ _ _ _ _ _ _ _ _ _ _ _ | exact land_Shift.mono _ _ _ _ _ _ _ _ | exact land_Validate.mono _ _ _ _ | exact LeO.refl _ | exact LeO.none _ | refine LeO.ite ?_ ?_ | refine LeO.bind ?_ (fun _ => ?_))
      | exact ih0 _ _ _ _ _ _ _
      | exact ih1 _ _ _ _ _ _ _ _ _
      | exact ih2 _ _ _ _ _ _ _ _ _ _ _ _
      | exact ih3 _ _ _ _ _ _ _ _ _ _ _ _ _ _ _ _ _ _ _ _ _
      | exact ih4 _ _ _ _ _ _ _ _ _ _ _ _ _ _ _ _ _ _ _ _ _ _ _
      | exact land_Shift.mono _ _ _ _ _ _ _ _
      | exact land_Validate.mono _ _ _ _
      | exact LeO.none _
      | refine LeO.ite ?_ ?_
      | refine LeO.bind ?_ (fun _ => ?_)
    · intro y0 y1 y2 y3 y4 y5 y6 y7 y8
      unfold land_Level.l0
      repeat' first
      | (with_reducible first | exact ih0 _ _ _ _ _ _ _ | exact ih1 _ _ _ _ _ _ _ _ _ | exact ih2 _ _ _ _ _ _ _ _ _ _ _ _ | exact ih3 _ _ _ _ _ _ _ _ _ _ _ _ _ _ _ _ _ _ _ _ _ | exact ih4 _ _ _ _ _ _ _ _ _ _ _ _ _ _ _ _ _ _ _ _ _ _ _ | exact land_Shift.mono _ _ _ _ _ _ _ _ | exact land_Validate.mono _ _ _ _ | exact LeO.refl _ | exact LeO.none _ | refine LeO.ite ?_ ?_ | refine LeO.bind ?_ (fun _ => ?_))
      | exact ih0 _ _ _ _ _ _ _
      | exact ih1 _ _ _ _ _ _ _ _ _
      | exact ih2 _ _ _ _ _ _ _ _ _ _ _ _
      | exact ih3 _ _ _ _ _ _ _ _ _ _ _ _ _ _ _ _ _ _ _ _ _
      | exact ih4 _ _ _ _ _ _ _ _ _ _ _ _ _ _ _ _ _ _ _ _ _ _ _
      | exact land_Shift.mono _ _ _ _ _ _ _ _
      | exact land_Validate.mono _ _ _ _
      | exact LeO.none _
      | refine LeO.ite ?_ ?_
      | refine LeO.bind ?_ (fun _ => ?_)
    · intro y0 y1 y2 y3 y4 y5 y6 y7 y8 y9 y10 y11
      unfold land_Level.l1
      repeat' first
      | (with_reducible first | exact ih0 _ _ _ _ _ _ _ | exact ih1 _ _ _ _ _ _ _ _ _ | exact ih2 _ _ _ _ _ _ _ _ _ _ _ _ | exact ih3 _ _ _ _ _ _ _ _ _ _ _ _ _ _ _ _ _ _ _ _ _ | exact ih4 _ _ _ _ _ _ _ _ _ _ _ _ _ _ _ _ _ _ _ _ _ _ _ | exact land_Shift.mono _ _ _ _ _ _ _ _ | exact land_Validate.mono _ _ _ _ | exact LeO.refl _ | exact LeO.none _ | refine LeO.ite ?_ ?_ | refine LeO.bind ?_ (fun _ => ?_))
      | exact ih0 _ _ _ _ _ _ _
      | exact ih1 _ _ _ _ _ _ _ _ _
      | exact ih2 _ _ _ _ _ _ _ _ _ _ _ _
      | exact ih3 _ _ _ _ _ _ _ _ _ _ _ _ _ _ _ _ _ _ _ _ _
      | exact ih4 _ _ _ _ _ _ _ _ _ _ _ _ _ _ _ _ _ _ _ _ _ _ _
      | exact land_Shift.mono _ _ _ _ _ _ _ _
      | exact land_Validate.mono _ _ _ _
      | exact LeO.none _
      | refine LeO.ite ?_ ?_
      | refine LeO.bind ?_ (fun _ => ?_)
    · intro y0 y1 y2 y3 y4 y5 y6 y7 y8 y9 y10 y11 y12 y13 y14 y15 y16 y17 y18 y19 y20
      unfold land_Level.l2
      repeat' first
      | (with_reducible first | exact ih0 _ _ _ _ _ _ _ | exact ih1 _ _ _ _ _ _ _ _ _ | exact ih2 _ _ _ _ _ _ _ _ _ _ _ _ | exact ih3 _ _ _ _ _ _ _ _ _ _ _ _ _ _ _ _ _ _ _ _ _ | exact ih4 _ _ _ _ _ _ _ _ _ _ _ _ _ _ _ _ _ _ _ _ _ _ _ | exact land_Shift.mono _ _ _ _ _ _ _ _ | exact land_Validate.mono _ _ _ _ | exact LeO.refl _ | exact LeO.none _ | refine LeO.ite ?_ ?_ | refine LeO.bind ?_ (fun _ => ?_))
      | exact ih0 _ _ _ _ _ _ _
      | exact ih1 _ _ _ _ _ _ _ _ _
      | exact ih2 _ _ _ _ _ _ _ _ _ _ _ _
      | exact ih3 _ _ _ _ _ _ _ _ _ _ _ _ _ _ _ _ _ _ _ _ _
      | exact ih4 _ _ _ _ _ _ _ _ _ _ _ _ _ _ _ _ _ _ _ _ _ _ _
      | exact land_Shift.mono _ _ _ _ _ _ _ _
      | exact land_Validate.mono _ _ _ _
      | exact LeO.none _
      | refine LeO.ite ?_ ?_
      | refine LeO.bind ?_ (fun _ => ?_)
    · intro y0 y1 y2 y3 y4 y5 y6 y7 y8 y9 y10 y11 y12 y13 y14 y15 y16 y17 y18 y19 y20 y21 y22
      unfold land_Level.l3
      repeat' first
      | (with_reducible first | exact ih0 _ _ _ _ _ _ _ | exact ih1 _ _ _ _ _ _ _ _ _ | exact ih2 _ _ _ _ _ _ _ _ _ _ _ _ | exact ih3 _ _ _ _ _ _ _ _ _ _ _ _ _ _ _ _ _ _ _ _ _ | exact ih4 _ _ _ _ _ _ _ _ _ _ _ _ _ _ _ _ _ _ _ _ _ _ _ | exact land_Shift.mono _ _ _ _ _ _ _ _ | exact land_Validate.mono _ _ _ _ | exact LeO.refl _ | exact LeO.none _ | refine LeO.ite ?_ ?_ | refine LeO.bind ?_ (fun _ => ?_))
      | exact ih0 _ _ _ _ _ _ _
      | exact ih1 _ _ _ _ _ _ _ _ _
      | exact ih2 _ _ _ _ _ _ _ _ _ _ _ _
      | exact ih3 _ _ _ _ _ _ _ _ _ _ _ _ _ _ _ _ _ _ _ _ _
      | exact ih4 _ _ _ _ _ _ _ _ _ _ _ _ _ _ _ _ _ _ _ _ _ _ _
      | exact land_Shift.mono _ _ _ _ _ _ _ _
      | exact land_Validate.mono _ _ _ _
      | exact LeO.none _
      | refine LeO.ite ?_ ?_
      | refine LeO.bind ?_ (fun _ => ?_)
theorem land_Level.mono : ∀ a0 a1 a2 a3 a4 a5 k, LeO (land_Level.f k a0 a1 a2 a3 a4 a5) (land_Level.f (k + 1) a0 a1 a2 a3 a4 a5) := by
  intro a0 a1 a2 a3 a4 a5 k
  obtain ⟨ih0, ih1, ih2, ih3, ih4⟩ := land_Level.mono_l k
  unfold land_Level.f
  repeat' first
      | (with_reducible first | exact ih0 _ _ _ _ _ _ _ | exact ih1 _ _ _ _ _ _ _ _ _ | exact ih2 _ _ _ _ _ _ _ _ _ _ _ _ | exact ih3 _ _ _ _ _ _ _ _ _ _ _ _ _ _ _ _ _ _ _ _ _ | exact ih4 _ _ _ _ _ _ _ _ _ _ _ _ _ _ _ _ _ _ _ _ _ _ _ | exact land_Shift.mono _ _ _ _ _ _ _ _ | exact land_Validate.mono _ _ _ _ | exact LeO.refl _ | exact LeO.none _ | refine LeO.ite ?_ ?_ | refine LeO.bind ?_ (fun _ => ?_))
      | exact ih0 _ _ _ _ _ _ _
      | exact ih1 _ _ _ _ _ _ _ _ _
      | exact ih2 _ _ _ _ _ _ _ _ _ _ _ _
      | exact ih3 _ _ _ _ _ _ _ _ _ _ _ _ _ _ _ _ _ _ _ _ _
      | exact ih4 _ _ _ _ _ _ _ _ _ _ _ _ _ _ _ _ _ _ _ _ _ _ _
      | exact land_Shift.mono _ _ _ _ _ _ _ _
      | exact land_Validate.mono _ _ _ _
      | exact LeO.none _
      | refine LeO.ite ?_ ?_
      | refine LeO.bind ?_ (fun _ => ?_)
def land_Level.T12 : Bool × List (List Nat × List Nat) := (true, [([], []), ([0], [0]), ([], []), ([2], [2]), ([], []), ([4], [4]), ([5], [5]), ([1, 3, 6], [1, 3, 6]), ([], []), ([8, 7, 6, 0, 1, 2, 3, 4, 5, 6, 7, 8], [7, 8])])
def land_Level.B12 : List Nat := [0, 1, 0, 4, 0, 16, 48, 127, 0, 511]
theorem land_Level.tab12 : rtab .any (opsOf Try.f23 12) = land_Level.T12 := by kernel_rfl
theorem land_Level.bits12 : waitsOk land_Level.T12.2 land_Level.B12 = true := by kernel_rfl
def land_Level.T17 : Bool × List (List Nat × List Nat) := (true, [([], []), ([], []), ([1], [1]), ([0, 2], [0, 2]), ([], []), ([], []), ([5], [5]), ([4, 6], [4, 6]), ([3, 0, 1, 2, 3], [3]), ([7, 8, 0, 1, 2, 3, 4, 5, 6, 7, 8], [7])])
def land_Level.B17 : List Nat := [0, 0, 2, 7, 0, 0, 32, 112, 15, 511]
theorem land_Level.tab17 : rtab .any (opsOf Try.f23 17) = land_Level.T17 := by kernel_rfl
theorem land_Level.bits17 : waitsOk land_Level.T17.2 land_Level.B17 = true := by kernel_rfl
set_option maxHeartbeats 8000000 in
set_option maxRecDepth 100000 in
theorem land_Level.calls (k : Nat) (a0_0 : Int) (a0_1 : Int) (A0_2 : Option Addr) (c0_2 : Nat) (l0_2 : List Int) (A1 : Option Addr) (c1 : Nat) (l1 : List Int) (a2 : Int) (A3 : Option Addr) (c3 : Nat) (l3 : List Int) (r1 : Int) (r2 : Int) (r3 : List Int) (r4 : Int) (r5 : Int) (w : World) (hr0_2 : Kd.C (Kd.int .i64) w A0_2 l0_2.length l0_2) (hc0_2 : l0_2.length ≤ c0_2) (hr1 : Kd.C (Kd.int .i64) w A1 l1.length l1) (hc1 : l1.length ≤ c1) (hr3 : Kd.C (Kd.int .i64) w A3 l3.length l3) (hc3 : l3.length ≤ c3) (h : land_Level.f k a0_0 a0_1 l0_2 l1 a2 l3 = some (r1, r2, r3, r4, r5)) :
    Calls Try.prog 23 #[.agg #[.int .i64 a0_0, .int .i64 a0_1, .slice A0_2 l0_2.length c0_2], .slice A1 l1.length c1, .int .i64 a2, .slice A3 l3.length c3] w fun e w' => ∃ v2_ : Value, e = .returned (.tuple #[.agg #[.int .i64 r1, .int .i64 r2, v2_], .int .i64 r4, .int .i64 r5]) ∧ Kd.R (Kd.int .i64) 3 w' w.heap.size (fun _ => True) v2_ r3 ∧ Below w.heap.size w w' := by
 have hu24 := Try.underlying24
 have hu69 := Try.underlying69
 have hu70 := Try.underlying70
 have HR0_2 := Aside0.mk hr0_2
 have HC0_2 := Aside0.mk hc0_2
 clear hr0_2 hc0_2
 have HR1 := Aside0.mk hr1
 have HC1 := Aside0.mk hc1
 clear hr1 hc1
 have HR3 := Aside0.mk hr3
 have HC3 := Aside0.mk hc3
 clear hr3 hc3
 have HB := Aside0.mk (Below.refl w.heap.size w)
 have H : ((land_Validate.f k a0_0 a0_1 l0_2).bind fun t297 => (if t297 = 0 then (if a2 < 0 then (land_Level.j0 k l1 a2 l3 true a0_0 a0_1 l0_2) else (if a2 > 15 then (land_Level.j0 k l1 a2 l3 true a0_0 a0_1 l0_2) else (land_Level.j0 k l1 a2 l3 (decide ((l1.length : Int) > 1000)) a0_0 a0_1 l0_2))) else (some (0, 0, ([] : List Int), 0, t297)))) = some (r1, r2, r3, r4, r5) := h
 clear h
 replace H := Option.bind_eq_some_iff.mp H
 obtain ⟨t297, A50, H⟩ := H
 replace H : (if t297 = 0 then (if a2 < 0 then (land_Level.j0 k l1 a2 l3 true a0_0 a0_1 l0_2) else (if a2 > 15 then (land_Level.j0 k l1 a2 l3 true a0_0 a0_1 l0_2) else (land_Level.j0 k l1 a2 l3 (decide ((l1.length : Int) > 1000)) a0_0 a0_1 l0_2))) else (some (0, 0, ([] : List Int), 0, t297))) = some (r1, r2, r3, r4, r5) := H
 have A5 := Aside0.mk A50
 clear A50
 by_cases c6 : t297 = 0
 ·rw [if_pos c6] at H
  have c6b0 : (t297 == 0) = true := beq_iff_eq.mpr c6
  have c6b1 : (t297 != 0) = false := bne_eq_false_iff_eq.mpr c6
  clear c6
  have HC7 := Aside0.mk H
  clear H
  go_enter Try.func23, Try.ntmps23
  go_upto_region 4 with (first | ((with_reducible refine gate_dst (N := 4) rfl ?_); (try (refine gate_guard (by rfl) ?_; dsimp only)); refine box_event ?hg (N := 4) ?hd (cs := #[.int .i64 a0_0, .int .i64 a0_1, .slice A0_2 l0_2.length c0_2]) (t := 24) ?hr ?_; (case hd => rfl); (case hg => rfl); (case hr => first | (go_simp; done) | (go_simp; rfl)); intro gb295 hg w8 hbox hb; have BK295 := Aside0.mk (hbox); have GW295 := Aside0.mk ((dS_ hg (dL_ HB) : w.heap.size ≤ gb295)); have GE295 := Aside0.mk ((dS_ hg (dL_ HB) : w.heap.size ≤ gb295)); replace HB := Aside0.mk (below_step (dL_ HB) hb); clear hb hbox hg) | ((with_reducible refine gate_dst (N := 8) rfl ?_); (try (refine gate_guard (by rfl) ?_; dsimp only)); refine box_event ?hg (N := 8) ?hd (cs := #[.int .i64 0, .int .i64 0, .slice none 0 0]) (t := 24) ?hr ?_; (case hd => rfl); (case hg => rfl); (case hr => first | (go_simp; done) | (go_simp; rfl)); intro gb296 hg w9 hbox hb; have BK296 := Aside0.mk (hbox); have GW296 := Aside0.mk ((dS_ hg (dL1_ HB GE295) : w.heap.size ≤ gb296)); have GE296 := Aside0.mk ((dS_ hg (dL1_ HB GE295) : w.heap.size ≤ gb296)); replace HB := Aside0.mk (below_step (dL1_ HB GE295) hb); have NB295_296 := Aside0.mk ((by rw [hg]; exact Nat.ne_of_lt (blk_lt (dB_ BK295)) : gb295 ≠ gb296)); have NB296_295 := Aside0.mk ((by rw [hg]; exact Nat.ne_of_gt (blk_lt (dB_ BK295)) : gb296 ≠ gb295)); replace BK295 := Aside0.mk (blk_below (g := gb295) (o := .cells #[.int .i64 a0_0, .int .i64 a0_1, .slice A0_2 l0_2.length c0_2] 24 (0, 0)) (dB_ BK295) hb); clear hb hbox hg; have hnb10 := NB295_296.out; have hnc10 := NB296_295.out; obtain ⟨hcz11_0, hcz11_1, hcz11_2, hfz11_0, hfz11_1, hfz11_2⟩ := cs3_ BK295.out) | ((with_reducible refine gate_callee (f := 17) rfl ?_); refine goesL_ (some 28) rfl rfl Try.func17 (by kernel_rfl) rfl #[.agg #[.int .i64 a0_0, .int .i64 a0_1, .slice A0_2 l0_2.length c0_2]] rfl tA_ ?_; (with_reducible refine (land_Validate.calls k a0_0 a0_1 _ _ l0_2 t297 _ ?side1 ?side2 A5.out).mono ?_); (case side1 => exact dC_ HR0_2 HB); (case side2 => exact HC0_2.out); rintro e w12 ⟨rfl, hb⟩; refine ⟨_, rfl, ?_⟩; replace BK295 := Aside0.mk (blk_below (g := gb295) (o := .cells #[.int .i64 a0_0, .int .i64 a0_1, .slice A0_2 l0_2.length c0_2] 24 (0, 0)) (dB_ BK295) hb); replace BK296 := Aside0.mk (blk_below (g := gb296) (o := .cells #[.int .i64 0, .int .i64 0, .slice none 0 0] 24 (0, 0)) (dB_ BK296) hb); replace HB := Aside0.mk (below_step (dL2_ HB GE295 GE296) hb)))
  (try simp only [Act.put, sI_, s0_, sS_])
  go_cut [43] (fun v43 wc => ∃ (kq : Nat) (x43_6 : Bool), v43 = .bool x43_6 ∧ Aside0 (land_Level.j0 kq l1 a2 l3 x43_6 a0_0 a0_1 l0_2 = some (r1, r2, r3, r4, r5)) ∧ Aside0 (kq ≤ k) ∧ Aside0 (wc.heap[gb295]? = some (.cells #[.int .i64 a0_0, .int .i64 a0_1, (.slice A0_2 l0_2.length c0_2)] 24 (0, 0))) ∧ Aside0 (wc.heap[gb296]? = some (.cells #[.int .i64 0, .int .i64 0, (.slice none 0 0)] 24 (0, 0))) ∧ Aside0 (Below w.heap.size w wc))
  case first =>
   have H := HC7.out
   clear HC7
   by_cases c13 : a2 < 0
   ·rw [if_pos c13] at H
    have c13b0 : decide (a2 < 0) = true := decide_eq_true c13
    clear c13
    (first | rw [c13b0] | (simp only [i64_w, i32_w]; rw [c13b0]) | skip)
    have H' := Aside0.mk H
    clear H
    go_wp2
    go_meet
    case rel => exact ⟨_, (true), tS_, H', ⟨by first | omega | exact Nat.le_refl _⟩, ⟨dB_ BK295⟩, ⟨dB_ BK296⟩, ⟨dL2_ HB GE295 GE296⟩⟩
   ·rw [if_neg c13] at H
    have c13b0 : decide (a2 < 0) = false := decide_eq_false c13
    clear c13
    (first | rw [c13b0] | (simp only [i64_w, i32_w]; rw [c13b0]) | skip)
    by_cases c14 : a2 > 15
    ·rw [if_pos c14] at H
     have c14b0 : decide (15 < a2) = true := decide_eq_true c14
     clear c14
     have H' := Aside0.mk H
     clear H
     go_wp2
     go_meet
     case rel => exact ⟨_, (true), tS_, H', ⟨by first | omega | exact Nat.le_refl _⟩, ⟨dB_ BK295⟩, ⟨dB_ BK296⟩, ⟨dL2_ HB GE295 GE296⟩⟩
    ·rw [if_neg c14] at H
     have c14b0 : decide (15 < a2) = false := decide_eq_false c14
     clear c14
     have H' := Aside0.mk H
     clear H
     go_wp2
     go_meet
     case rel => exact ⟨_, (decide ((l1.length : Int) > 1000)), tS_, H', ⟨by first | omega | exact Nat.le_refl _⟩, ⟨dB_ BK295⟩, ⟨dB_ BK296⟩, ⟨dL2_ HB GE295 GE296⟩⟩
  case rest =>
   clear HC7
   try clear c1
   try clear c3
   try clear c6
   try clear c6b0
   try clear c6b1
   try clear c13
   try clear c14
   try clear hcz11_0
   try clear hcz11_1
   try clear hcz11_2
   try clear hfz11_0
   try clear hfz11_1
   try clear hfz11_2
   obtain ⟨kq, x43_6, rfl, HA, HJ6, BK295, BK296, HB⟩ := hcut
   cases kq with
   | zero => exact absurd HA.out (by simp [land_Level.j0])
   | succ kj6 =>
    have H := HA.out
    clear HA
    simp only [land_Level.j0] at H
    by_cases c15 : x43_6 = true
    ·subst c15
     have H1 : (some (0, 0, ([] : List Int), 0, 1)) = some (r1, r2, r3, r4, r5) := by rw [if_pos rfl] at H; exact H
     clear H
     have H := H1
     clear H1
     simp only [Option.some.injEq, Prod.mk.injEq] at H
     obtain ⟨rfl, rfl, rfl, rfl, rfl⟩ := H
     have hnb16 := NB296_295.out
     have hnc16 := NB295_296.out
     obtain ⟨hcz17_0, hcz17_1, hcz17_2, hfz17_0, hfz17_1, hfz17_2⟩ := cs3_ BK296.out
     go_wp2
     refine bodyPost_ret (results_ctt rfl _ _ gb296 24 #[.int .i64 0, .int .i64 0, .slice none 0 0] (0, 0) _ rfl (by (with_reducible repeat (first | refine blk_drewN ?_ _ | refine blk_drew ?_ | refine blk_alloc ?_ _)); refine blk_put (cs := #[.int .i64 0, .int .i64 0, .slice none 0 0]) ?_ 2 _ rfl; (with_reducible repeat (first | refine blk_drewN ?_ _ | refine blk_drew ?_ | refine blk_alloc ?_ _)); refine blk_put (cs := #[.int .i64 0, .int .i64 0, .slice none 0 0]) ?_ 1 _ rfl; (with_reducible repeat (first | refine blk_drewN ?_ _ | refine blk_drew ?_ | refine blk_alloc ?_ _)); refine blk_put (cs := #[.int .i64 0, .int .i64 0, .slice none 0 0]) ?_ 0 _ rfl; (with_reducible repeat (first | refine blk_drewN ?_ _ | refine blk_drew ?_ | refine blk_alloc ?_ _)); exact BK296.out) Try.underlying24 rfl (by kernel_rfl)) rfl ?_
     exact ⟨_, tE_, by first | exact Kd.R_nil _ _ _ _ _ | exact Kd.N_nil _ _ _ _ _ | exact Kd.V_nil _ _ _ _ _ | exact Kd.Q_nil _ _ _ _ _ | exact Kd.S_nil _ _ _ _ _, dL2_ HB GE295 GE296⟩
    ·replace c15 := Bool.eq_false_iff.mpr c15
     subst c15
     have H1 : (land_Level.l0 kj6 l1 a2 l3 l1 (l1.length : Int) 0 a0_0 a0_1 l0_2) = some (r1, r2, r3, r4, r5) := by rw [if_neg (show ¬ (false = true) by decide)] at H; exact H
     clear H
     have H := H1
     clear H1
     have H' := Aside0.mk H
     clear H
     go_wp2
     go_loopg [47] kj6 (fun kq v47 w' => ∃ (x47_2 : Int) (x297000_2 : Int) (x297001_2 : Int), v47 = .int .i64 x47_2 ∧ Aside0 (land_Level.l0 kq l1 a2 l3 l1 (l1.length : Int) x47_2 a0_0 a0_1 l0_2 = some (r1, r2, r3, r4, r5)) ∧ Aside0 (kq ≤ kj6) ∧ Aside0 (w'.heap[gb295]? = some (.cells #[.int .i64 a0_0, .int .i64 a0_1, (.slice A0_2 l0_2.length c0_2)] 24 (0, 0))) ∧ Aside0 (w'.heap[gb296]? = some (.cells #[.int .i64 x297000_2, .int .i64 x297001_2, (.slice none 0 0)] 24 (0, 0))) ∧ Aside0 (Below w.heap.size w w'))
     case atStart => exact ⟨(0), (0), (0), tS_, H', ⟨Nat.le_refl _⟩, ⟨dB_ BK295⟩, ⟨dB_ BK296⟩, ⟨dL2_ HB GE295 GE296⟩⟩
     case round =>
      clear H'
      try clear c1
      try clear c3
      try clear c6
      try clear c6b0
      try clear c6b1
      try clear c13
      try clear c14
      try clear c15
      try clear hcz11_0
      try clear hcz11_1
      try clear hcz11_2
      try clear hfz11_0
      try clear hfz11_1
      try clear hfz11_2
      obtain ⟨x47_2, x297000_2, x297001_2, rfl, HA, HK2, BK295, BK296, HB⟩ := hrel
      cases gk with
      | zero => exact absurd HA.out (by simp [land_Level.l0])
      | succ k2 =>
       have H := HA.out
       clear HA
       simp only [land_Level.l0] at H
       by_cases c18 : x47_2 < (l1.length : Int)
       ·rw [if_pos c18] at H
        have c18b0 : decide (x47_2 < (l1.length : Int)) = true := decide_eq_true c18
        clear c18
        by_cases c19 : 0 ≤ x47_2
        ·rw [if_pos c19] at H
         have c19b0 : decide (0 ≤ x47_2) = true := decide_eq_true c19
         clear c19
         by_cases c20 : x47_2 < (l1.length : Int)
         ·rw [if_pos c20] at H
          have c20b0 : decide (x47_2 < (l1.length : Int)) = true := decide_eq_true c20
          clear c20
          replace H := Option.bind_eq_some_iff.mp H
          obtain ⟨t299, A210, H⟩ := H
          replace H : (if t299 = true then (land_Level.l0 k2 l1 a2 l3 l1 (l1.length : Int) (wrap64 (x47_2 + 1)) a0_0 a0_1 l0_2) else (some (0, 0, ([] : List Int), 0, 2))) = some (r1, r2, r3, r4, r5) := H
          have A21 := Aside0.mk A210
          clear A210
          by_cases c22 : t299 = true
          ·subst c22
           have H1 : (land_Level.l0 k2 l1 a2 l3 l1 (l1.length : Int) (wrap64 (x47_2 + 1)) a0_0 a0_1 l0_2) = some (r1, r2, r3, r4, r5) := by rw [if_pos rfl] at H; exact H
           clear H
           have H := H1
           clear H1
           have H' := Aside0.mk H
           clear H
           have p298 : 0 ≤ (x47_2 : Int) := of_decide_eq_true tW_
           have q298 : x47_2 < (l1.length : Int) := of_decide_eq_true tW_
           obtain ⟨ad298, e298, hx298_0⟩ := Kd.at_int HR1.out x47_2 p298 q298
           cases e298
           replace hx298_0 := bc_ HB hx298_0
           replace p298 := eq_true p298
           replace q298 := eq_true q298
           have hnb23 := NB295_296.out
           have hnc23 := NB296_295.out
           obtain ⟨hcz24_0, hcz24_1, hcz24_2, hfz24_0, hfz24_1, hfz24_2⟩ := cs3_ BK295.out
           go_wp2_with (first | ((with_reducible refine gate_callee (f := 46) rfl ?_); refine goesL_ (some 53) rfl rfl Try.func46 (by kernel_rfl) rfl #[.agg #[.int .i64 a0_0, .int .i64 a0_1, .slice A0_2 l0_2.length c0_2], .int .i64 (rd l1 x47_2)] rfl tA_ ?_; (with_reducible refine (land_isTile.calls a0_0 a0_1 _ _ l0_2 (rd l1 x47_2) true _ ?side1 ?side2 A21.out).mono ?_); (case side1 => exact dC_ HR0_2 HB); (case side2 => exact HC0_2.out); rintro e w25 ⟨rfl, hb⟩; refine ⟨_, rfl, ?_⟩; replace BK295 := Aside0.mk (blk_below (g := gb295) (o := .cells #[.int .i64 a0_0, .int .i64 a0_1, .slice A0_2 l0_2.length c0_2] 24 (0, 0)) (dB_ BK295) hb); replace BK296 := Aside0.mk (blk_below (g := gb296) (o := .cells #[.int .i64 x297000_2, .int .i64 x297001_2, .slice none 0 0] 24 (0, 0)) (dB_ BK296) hb); replace HB := Aside0.mk (below_step (dL2_ HB GE295 GE296) hb)))
           go_roundg k2
           case measure => have := HJ6.out; have := HK2.out; omega
           case rel => exact ⟨(wrap64 (x47_2 + 1)), (x297000_2), (x297001_2), tS_, H', ⟨by have := HJ6.out; have := HK2.out; omega⟩, ⟨dB_ BK295⟩, ⟨dB_ BK296⟩, ⟨dL2_ HB GE295 GE296⟩⟩
          ·replace c22 := Bool.eq_false_iff.mpr c22
           subst c22
           have H1 : (some (0, 0, ([] : List Int), 0, 2)) = some (r1, r2, r3, r4, r5) := by rw [if_neg (show ¬ (false = true) by decide)] at H; exact H
           clear H
           have H := H1
           clear H1
           simp only [Option.some.injEq, Prod.mk.injEq] at H
           obtain ⟨rfl, rfl, rfl, rfl, rfl⟩ := H
           have p298 : 0 ≤ (x47_2 : Int) := of_decide_eq_true tW_
           have q298 : x47_2 < (l1.length : Int) := of_decide_eq_true tW_
           obtain ⟨ad298, e298, hx298_0⟩ := Kd.at_int HR1.out x47_2 p298 q298
           cases e298
           replace hx298_0 := bc_ HB hx298_0
           replace p298 := eq_true p298
           replace q298 := eq_true q298
           have hnb26 := NB295_296.out
           have hnc26 := NB296_295.out
           obtain ⟨hcz27_0, hcz27_1, hcz27_2, hfz27_0, hfz27_1, hfz27_2⟩ := cs3_ BK295.out
           go_wp2_with (first | ((with_reducible refine gate_callee (f := 46) rfl ?_); refine goesL_ (some 53) rfl rfl Try.func46 (by kernel_rfl) rfl #[.agg #[.int .i64 a0_0, .int .i64 a0_1, .slice A0_2 l0_2.length c0_2], .int .i64 (rd l1 x47_2)] rfl tA_ ?_; (with_reducible refine (land_isTile.calls a0_0 a0_1 _ _ l0_2 (rd l1 x47_2) false _ ?side1 ?side2 A21.out).mono ?_); (case side1 => exact dC_ HR0_2 HB); (case side2 => exact HC0_2.out); rintro e w28 ⟨rfl, hb⟩; refine ⟨_, rfl, ?_⟩; replace BK295 := Aside0.mk (blk_below (g := gb295) (o := .cells #[.int .i64 a0_0, .int .i64 a0_1, .slice A0_2 l0_2.length c0_2] 24 (0, 0)) (dB_ BK295) hb); replace BK296 := Aside0.mk (blk_below (g := gb296) (o := .cells #[.int .i64 x297000_2, .int .i64 x297001_2, .slice none 0 0] 24 (0, 0)) (dB_ BK296) hb); replace HB := Aside0.mk (below_step (dL2_ HB GE295 GE296) hb); obtain ⟨hcz29_0, hcz29_1, hcz29_2, hfz29_0, hfz29_1, hfz29_2⟩ := cs3_ BK296.out))
           refine bodyPost_ret (results_ctt rfl _ _ gb296 24 #[.int .i64 0, .int .i64 0, .slice none 0 0] (0, 0) _ rfl (by (with_reducible repeat (first | refine blk_drewN ?_ _ | refine blk_drew ?_ | refine blk_alloc ?_ _)); refine blk_put (cs := #[.int .i64 0, .int .i64 0, .slice none 0 0]) ?_ 2 _ rfl; (with_reducible repeat (first | refine blk_drewN ?_ _ | refine blk_drew ?_ | refine blk_alloc ?_ _)); refine blk_put (cs := #[.int .i64 0, .int .i64 x297001_2, .slice none 0 0]) ?_ 1 _ rfl; (with_reducible repeat (first | refine blk_drewN ?_ _ | refine blk_drew ?_ | refine blk_alloc ?_ _)); refine blk_put (cs := #[.int .i64 x297000_2, .int .i64 x297001_2, .slice none 0 0]) ?_ 0 _ rfl; (with_reducible repeat (first | refine blk_drewN ?_ _ | refine blk_drew ?_ | refine blk_alloc ?_ _)); exact BK296.out) Try.underlying24 rfl (by kernel_rfl)) rfl ?_
           exact ⟨_, tE_, by first | exact Kd.R_nil _ _ _ _ _ | exact Kd.N_nil _ _ _ _ _ | exact Kd.V_nil _ _ _ _ _ | exact Kd.Q_nil _ _ _ _ _ | exact Kd.S_nil _ _ _ _ _, dL2_ HB GE295 GE296⟩
         ·rw [if_neg c20] at H
          exact absurd H (by simp)
        ·rw [if_neg c19] at H
         exact absurd H (by simp)
       ·rw [if_neg c18] at H
        have c18b0 : decide (x47_2 < (l1.length : Int)) = false := decide_eq_false c18
        clear c18
        by_cases c30 : ([] : List Int).length + l0_2.length < 17592186044416
        ·rw [if_pos c30] at H
         have LMc30 := Aside0.mk c30
         clear c30
         obtain ⟨y300, hy300⟩ : ∃ y_ : List Int, y_ = (([] : List Int) ++ l0_2) := ⟨_, rfl⟩
         replace H : (land_Level.l1 k2 a2 l3 0 l1 (l1.length : Int) 0 a0_0 a0_1 l0_2 a0_0 a0_1 y300) = some (r1, r2, r3, r4, r5) := by first | (rw [hy300]; with_reducible exact H) | (have H2_ := (Option.bind_some _ _).symm.trans H; rw [hy300]; with_reducible exact H2_) | (have H2_ := (Option.bind_some _ _).symm.trans H; with_reducible exact H2_) | with_reducible exact H | (rw [hy300]; exact H) | exact H
         have Ny300 := Aside0.mk hy300
         clear hy300
         have H' := Aside0.mk H
         clear H
         try go_wp2
         replace BK295 := Aside0.mk (blk_drew BK295.out)
         replace BK296 := Aside0.mk (blk_drew BK296.out)
         replace HB := Aside0.mk (below_drew1 HB.out)
         refine start_ (n := 10) (S := fun w' => w'.cell? ⟨gb295, 0, none⟩ = some (.int .i64 a0_0) ∧ w'.cell? ⟨gb295, 1, none⟩ = some (.int .i64 a0_1) ∧ w'.cell? ⟨gb295, 2, none⟩ = some (.slice A0_2 l0_2.length c0_2)) (ds := []) #[false, false, false, false, false, false, false, false, false, false] (by kernel_rfl) rfl rfl ⟨(blk_cell BK295.out 0).trans rfl, (blk_cell BK295.out 1).trans rfl, (blk_cell BK295.out 2).trans rfl⟩ (fun hHeld => ?_); refine with_tabW land_Level.tab12 land_Level.bits12 (fun HT_ HW_ => ?_)
         generalize wr.drew = w31 at BK295 BK296 HB hHeld ⊢
         refine pure_ (i := 0) (N := some 57) (v := ?_) (a' := ?_) #[true, false, false, false, false, false, false, false, false, false] rfl rfl (any_of HT_.out (by kernel_rfl)) (fun _ _ _ h => h) (Or.inl ⟨by rfl, ?_⟩) ?_ ?_
         rotate_left
         ·intro w'
          go_simp
          with_reducible rfl
         rotate_left
         ·simp only [Act.put, sI_, s0_, sS_, i64_w, i32_w]
          rfl
         refine pure_ (i := 2) (N := some 59) (v := ?_) (a' := ?_) #[true, false, true, false, false, false, false, false, false, false] rfl rfl (any_of HT_.out (by kernel_rfl)) (fun _ _ _ h => h) (Or.inl ⟨by rfl, ?_⟩) ?_ ?_
         rotate_left
         ·intro w'
          go_simp
          with_reducible rfl
         rotate_left
         ·simp only [Act.put, sI_, s0_, sS_, i64_w, i32_w]
          rfl
         refine pure_ (i := 4) (N := some 61) (v := ?_) (a' := ?_) #[true, false, true, false, true, false, false, false, false, false] rfl rfl (any_of HT_.out (by kernel_rfl)) (fun _ _ _ h => h) (Or.inl ⟨by rfl, ?_⟩) ?_ ?_
         rotate_left
         ·intro w'
          go_simp
          with_reducible rfl
         rotate_left
         ·simp only [Act.put, sI_, s0_, sS_, i64_w, i32_w]
          rfl
         refine take_ (i := 1) (N := some 58) (v := ?_) (a' := ?_) #[true, true, true, false, true, false, false, false, false, false] rfl rfl (take_ofW HT_.out HW_.out (by kernel_rfl)) (fun _ _ _ h => h) (Or.inl ⟨by rfl, ?_⟩) hHeld ?_ ?_
         rotate_left
         ·rintro w' ⟨s0, s1, s2⟩
          go_simp
          with_reducible rfl
         rotate_left
         ·simp only [Act.put, sI_, s0_, sS_, i64_w, i32_w]
          rfl
         refine take_ (i := 3) (N := some 60) (v := ?_) (a' := ?_) #[true, true, true, true, true, false, false, false, false, false] rfl rfl (take_ofW HT_.out HW_.out (by kernel_rfl)) (fun _ _ _ h => h) (Or.inl ⟨by rfl, ?_⟩) hHeld ?_ ?_
         rotate_left
         ·rintro w' ⟨s0, s1, s2⟩
          go_simp
          with_reducible rfl
         rotate_left
         ·simp only [Act.put, sI_, s0_, sS_, i64_w, i32_w]
          rfl
         refine take_ (i := 5) (N := some 62) (v := ?_) (a' := ?_) #[true, true, true, true, true, true, false, false, false, false] rfl rfl (take_ofW HT_.out HW_.out (by kernel_rfl)) (fun _ _ _ h => h) (Or.inl ⟨by rfl, ?_⟩) hHeld ?_ ?_
         rotate_left
         ·rintro w' ⟨s0, s1, s2⟩
          go_simp
          with_reducible rfl
         rotate_left
         ·simp only [Act.put, sI_, s0_, sS_, i64_w, i32_w]
          rfl
         refine join_ (σ := Value × Nat) 1 #[true, true, true, true, true, true, true, true, true, false] (fun s_ => [(63, s_.1), (14, .pointer (some ⟨s_.2, 0, none⟩)), (64, .agg #[.int .i64 a0_0, .int .i64 a0_1, s_.1])]) (fun s_ w' => (w'.cell? ⟨gb295, 0, none⟩ = some (.int .i64 a0_0) ∧ w'.cell? ⟨gb295, 1, none⟩ = some (.int .i64 a0_1) ∧ w'.cell? ⟨gb295, 2, none⟩ = some (.slice A0_2 l0_2.length c0_2)) ∧ (Kd.R (Kd.int .i64) 3 w' w.heap.size (fun _ => True) s_.1 y300) ∧ (w'.heap[gb295]? = some (.cells #[.int .i64 a0_0, .int .i64 a0_1, .slice A0_2 l0_2.length c0_2] 24 (0, 0))) ∧ (w'.heap[gb296]? = some (.cells #[.int .i64 x297000_2, .int .i64 x297001_2, .slice none 0 0] 24 (0, 0))) ∧ (w'.heap[s_.2]? = some (.cells #[.int .i64 0, .int .i64 0, .slice none 0 0] 24 (0, 0))) ∧ (w.heap.size ≤ s_.2) ∧ (w.heap.size ≤ s_.2) ∧ (gb295 ≠ s_.2) ∧ (s_.2 ≠ gb295) ∧ (gb296 ≠ s_.2) ∧ (s_.2 ≠ gb296) ∧ (Below w.heap.size w w')) ?_ ?_
         rotate_left
         ·intro hCont
          refine two_ (i := 6) (j := 8) (Ni := some 63) (Nj := some 14) #[true, true, true, true, true, true, true, false, false, false] #[true, true, true, true, true, true, false, false, true, false] rfl rfl rfl rfl (two_of HT_.out (by kernel_rfl)) (by decide) (by decide) (fun K hK => ?_) (fun K hK => ?_)
          ·skip
           refine Kd.R_append_rows_step (Kd.int .i64) (w0 := w) w.heap.size (by rfl) (.const (.slice none 0 0)) (.tmp 62) 22 3 (.int .i64 0) 8 rfl Try.underlying22 info3 rfl (by decide) (by omega) (.slice none 0 0) ([] : List Int) l0_2 _ _ _ (fun _ => True) (fun _ => False) rfl rfl ?aO ?aR (fun _ _ h => h) (fun _ h => h.elim) ?aF ?aB ?aS ?aL ?_
           (case aR => exact dC_ HR0_2 HB)
           (case aB => exact (dL2_ HB GE295 GE296))
           (case aF => exact (fun _ _ => trivial))
           (case aO => exact ((Kd.R_nil _ _ _ _ (fun _ => True))))
           (case aS => exact (below_size (dL2_ HB GE295 GE296)))
           (case aL => have := LMc30.out; omega)
           intro v301 w32 ho hb hg hat
           rw [← Ny300.out] at ho
           replace BK295 := Aside0.mk (blk_grown (g := gb295) (o := .cells #[.int .i64 a0_0, .int .i64 a0_1, .slice A0_2 l0_2.length c0_2] 24 (0, 0)) (dB_ BK295) hg (by simp [Value.ownBlock]))
           replace BK296 := Aside0.mk (blk_grown (g := gb296) (o := .cells #[.int .i64 x297000_2, .int .i64 x297001_2, .slice none 0 0] 24 (0, 0)) (dB_ BK296) hg (by simp [Value.ownBlock]))
           replace HB := Aside0.mk (hb)
           have HO302 := Aside0.mk (ho)
           clear ho hb hg hat
           obtain ⟨Ao33, co33, eo33⟩ := Kd.R_slice HO302.out
           (first | subst eo33 | (injection eo33 with f1_ f2_ f3_; have f4_ := f1_.symm; have f5_ := f3_.symm; clear f1_ f2_ f3_; subst f4_; subst f5_))
           refine hK.out _ _ ⟨(blk_cell BK295.out 0).trans rfl, (blk_cell BK295.out 1).trans rfl, (blk_cell BK295.out 2).trans rfl⟩ (fun hHeld => ?_)
           clear hK K
           refine norm_ (a' := ?_) ?_ ?_
           rotate_left
           ·show Act.put _ (some 63) _ = _
            simp only [Act.put, sI_, s0_, sS_, i64_w, i32_w]
            rfl
           refine pure_ (i := 7) (N := some 64) (v := ?_) (a' := ?_) #[true, true, true, true, true, true, true, true, false, false] rfl rfl (any_of HT_.out (by kernel_rfl)) (fun _ _ _ h => h) (Or.inl ⟨by rfl, ?_⟩) ?_ ?_
           rotate_left
           ·intro w'
            go_simp
            with_reducible rfl
           rotate_left
           ·simp only [Act.put, sI_, s0_, sS_, i64_w, i32_w]
            rfl
           refine one_ (i := 8) (N := some 14) #[true, true, true, true, true, true, true, true, true, false] rfl rfl (one_of HT_.out (by kernel_rfl)) (by decide) (fun K hK => ?_)
           refine box_step ?hg (N := 14) ?hd (cs := #[.int .i64 0, .int .i64 0, .slice none 0 0]) (t := 24) ?hr ?_; (case hd => rfl); (case hg => rfl); (case hr => first | (go_simp; done) | (go_simp; rfl))
           intro gb303 hg w34 hbox hb
           replace HO302 := Aside0.mk (Kd.R_below (dR_ HO302) hb)
           have BK303 := Aside0.mk (hbox)
           have GW303 := Aside0.mk ((dS_ hg (dL2_ HB GE295 GE296) : w.heap.size ≤ gb303))
           have GE303 := Aside0.mk ((dS_ hg (dL2_ HB GE295 GE296) : w.heap.size ≤ gb303))
           replace HB := Aside0.mk (below_step (dL2_ HB GE295 GE296) hb)
           have NB295_303 := Aside0.mk ((by rw [hg]; exact Nat.ne_of_lt (blk_lt (dB_ BK295)) : gb295 ≠ gb303))
           have NB303_295 := Aside0.mk ((by rw [hg]; exact Nat.ne_of_gt (blk_lt (dB_ BK295)) : gb303 ≠ gb295))
           replace BK295 := Aside0.mk (blk_below (g := gb295) (o := .cells #[.int .i64 a0_0, .int .i64 a0_1, .slice A0_2 l0_2.length c0_2] 24 (0, 0)) (dB_ BK295) hb)
           have NB296_303 := Aside0.mk ((by rw [hg]; exact Nat.ne_of_lt (blk_lt (dB_ BK296)) : gb296 ≠ gb303))
           have NB303_296 := Aside0.mk ((by rw [hg]; exact Nat.ne_of_gt (blk_lt (dB_ BK296)) : gb303 ≠ gb296))
           replace BK296 := Aside0.mk (blk_below (g := gb296) (o := .cells #[.int .i64 x297000_2, .int .i64 x297001_2, .slice none 0 0] 24 (0, 0)) (dB_ BK296) hb)
           clear hb hbox hg
           refine hK.out _ _ ⟨(blk_cell BK295.out 0).trans rfl, (blk_cell BK295.out 1).trans rfl, (blk_cell BK295.out 2).trans rfl⟩ (fun hHeld => ?_)
           clear hK K
           refine norm_ (a' := ?_) ?_ ?_
           rotate_left
           ·show Act.put _ (some 14) _ = _
            simp only [Act.put, sI_, s0_, sS_, i64_w, i32_w]
            rfl
           exact norm_ (by simp only [putAll, Act.put, sI_, s0_, sS_]) (hCont (.slice Ao33 y300.length co33, gb303) _ ⟨hHeld, (dR_ HO302), (dB_ BK295), (dB_ BK296), (dB_ BK303), GW303.out, GE303.out, NB295_303.out, NB303_295.out, NB296_303.out, NB303_296.out, (dL3_ HB GE295 GE296 GE303)⟩)
          ·skip
           refine box_step ?hg (N := 14) ?hd (cs := #[.int .i64 0, .int .i64 0, .slice none 0 0]) (t := 24) ?hr ?_; (case hd => rfl); (case hg => rfl); (case hr => first | (go_simp; done) | (go_simp; rfl))
           intro gb303 hg w32 hbox hb
           have BK303 := Aside0.mk (hbox)
           have GW303 := Aside0.mk ((dS_ hg (dL2_ HB GE295 GE296) : w.heap.size ≤ gb303))
           have GE303 := Aside0.mk ((dS_ hg (dL2_ HB GE295 GE296) : w.heap.size ≤ gb303))
           replace HB := Aside0.mk (below_step (dL2_ HB GE295 GE296) hb)
           have NB295_303 := Aside0.mk ((by rw [hg]; exact Nat.ne_of_lt (blk_lt (dB_ BK295)) : gb295 ≠ gb303))
           have NB303_295 := Aside0.mk ((by rw [hg]; exact Nat.ne_of_gt (blk_lt (dB_ BK295)) : gb303 ≠ gb295))
           replace BK295 := Aside0.mk (blk_below (g := gb295) (o := .cells #[.int .i64 a0_0, .int .i64 a0_1, .slice A0_2 l0_2.length c0_2] 24 (0, 0)) (dB_ BK295) hb)
           have NB296_303 := Aside0.mk ((by rw [hg]; exact Nat.ne_of_lt (blk_lt (dB_ BK296)) : gb296 ≠ gb303))
           have NB303_296 := Aside0.mk ((by rw [hg]; exact Nat.ne_of_gt (blk_lt (dB_ BK296)) : gb303 ≠ gb296))
           replace BK296 := Aside0.mk (blk_below (g := gb296) (o := .cells #[.int .i64 x297000_2, .int .i64 x297001_2, .slice none 0 0] 24 (0, 0)) (dB_ BK296) hb)
           clear hb hbox hg
           refine hK.out _ _ ⟨(blk_cell BK295.out 0).trans rfl, (blk_cell BK295.out 1).trans rfl, (blk_cell BK295.out 2).trans rfl⟩ (fun hHeld => ?_)
           clear hK K
           refine norm_ (a' := ?_) ?_ ?_
           rotate_left
           ·show Act.put _ (some 14) _ = _
            simp only [Act.put, sI_, s0_, sS_, i64_w, i32_w]
            rfl
           refine one_ (i := 6) (N := some 63) #[true, true, true, true, true, true, true, false, true, false] rfl rfl (one_of HT_.out (by kernel_rfl)) (by decide) (fun K hK => ?_)
           refine Kd.R_append_rows_step (Kd.int .i64) (w0 := w) w.heap.size (by rfl) (.const (.slice none 0 0)) (.tmp 62) 22 3 (.int .i64 0) 8 rfl Try.underlying22 info3 rfl (by decide) (by omega) (.slice none 0 0) ([] : List Int) l0_2 _ _ _ (fun _ => True) (fun _ => False) rfl rfl ?aO ?aR (fun _ _ h => h) (fun _ h => h.elim) ?aF ?aB ?aS ?aL ?_
           (case aR => exact dC_ HR0_2 HB)
           (case aB => exact (dL3_ HB GE295 GE296 GE303))
           (case aF => exact (fun _ _ => trivial))
           (case aO => exact ((Kd.R_nil _ _ _ _ (fun _ => True))))
           (case aS => exact (below_size (dL3_ HB GE295 GE296 GE303)))
           (case aL => have := LMc30.out; omega)
           intro v301 w33 ho hb hg hat
           rw [← Ny300.out] at ho
           replace BK295 := Aside0.mk (blk_grown (g := gb295) (o := .cells #[.int .i64 a0_0, .int .i64 a0_1, .slice A0_2 l0_2.length c0_2] 24 (0, 0)) (dB_ BK295) hg (by simp [Value.ownBlock]))
           replace BK296 := Aside0.mk (blk_grown (g := gb296) (o := .cells #[.int .i64 x297000_2, .int .i64 x297001_2, .slice none 0 0] 24 (0, 0)) (dB_ BK296) hg (by simp [Value.ownBlock]))
           replace BK303 := Aside0.mk (blk_grown (g := gb303) (o := .cells #[.int .i64 0, .int .i64 0, .slice none 0 0] 24 (0, 0)) (dB_ BK303) hg (by simp [Value.ownBlock]))
           replace HB := Aside0.mk (hb)
           have HO302 := Aside0.mk (ho)
           clear ho hb hg hat
           obtain ⟨Ao34, co34, eo34⟩ := Kd.R_slice HO302.out
           (first | subst eo34 | (injection eo34 with f1_ f2_ f3_; have f4_ := f1_.symm; have f5_ := f3_.symm; clear f1_ f2_ f3_; subst f4_; subst f5_))
           refine hK.out _ _ ⟨(blk_cell BK295.out 0).trans rfl, (blk_cell BK295.out 1).trans rfl, (blk_cell BK295.out 2).trans rfl⟩ (fun hHeld => ?_)
           clear hK K
           refine norm_ (a' := ?_) ?_ ?_
           rotate_left
           ·show Act.put _ (some 63) _ = _
            simp only [Act.put, sI_, s0_, sS_, i64_w, i32_w]
            rfl
           refine pure_ (i := 7) (N := some 64) (v := ?_) (a' := ?_) #[true, true, true, true, true, true, true, true, true, false] rfl rfl (any_of HT_.out (by kernel_rfl)) (fun _ _ _ h => h) (Or.inl ⟨by rfl, ?_⟩) ?_ ?_
           rotate_left
           ·intro w'
            go_simp
            with_reducible rfl
           rotate_left
           ·simp only [Act.put, sI_, s0_, sS_, i64_w, i32_w]
            rfl
           exact norm_ (by simp only [putAll, Act.put, sI_, s0_, sS_]) (hCont (.slice Ao34 y300.length co34, gb303) _ ⟨hHeld, (dR_ HO302), (dB_ BK295), (dB_ BK296), (dB_ BK303), GW303.out, GE303.out, NB295_303.out, NB303_295.out, NB296_303.out, NB303_296.out, (dL3_ HB GE295 GE296 GE303)⟩)
         rintro ⟨v301, gb303⟩ w35 ⟨hS_, h0_, h1_, h2_, h3_, h4_, h5_, h6_, h7_, h8_, h9_, h10_⟩
         have n0_ : Aside0 (Kd.R (Kd.int .i64) 3 w35 w.heap.size (fun _ => True) v301 y300) := ⟨h0_⟩
         have n1_ : Aside0 (w35.heap[gb295]? = some (.cells #[.int .i64 a0_0, .int .i64 a0_1, .slice A0_2 l0_2.length c0_2] 24 (0, 0))) := ⟨h1_⟩
         have n2_ : Aside0 (w35.heap[gb296]? = some (.cells #[.int .i64 x297000_2, .int .i64 x297001_2, .slice none 0 0] 24 (0, 0))) := ⟨h2_⟩
         have n3_ : Aside0 (w35.heap[gb303]? = some (.cells #[.int .i64 0, .int .i64 0, .slice none 0 0] 24 (0, 0))) := ⟨h3_⟩
         have n4_ : Aside0 (w.heap.size ≤ gb303) := ⟨h4_⟩
         have n5_ : Aside0 (w.heap.size ≤ gb303) := ⟨h5_⟩
         have n6_ : Aside0 (gb295 ≠ gb303) := ⟨h6_⟩
         have n7_ : Aside0 (gb303 ≠ gb295) := ⟨h7_⟩
         have n8_ : Aside0 (gb296 ≠ gb303) := ⟨h8_⟩
         have n9_ : Aside0 (gb303 ≠ gb296) := ⟨h9_⟩
         have n10_ : Aside0 (Below w.heap.size w w35) := ⟨h10_⟩
         clear BK295
         clear BK296
         clear HB
         clear h0_ h1_ h2_ h3_ h4_ h5_ h6_ h7_ h8_ h9_ h10_
         have HO302 := n0_
         have BK295 := n1_
         have BK296 := n2_
         have BK303 := n3_
         have GW303 := n4_
         have GE303 := n5_
         have NB295_303 := n6_
         have NB303_295 := n7_
         have NB296_303 := n8_
         have NB303_296 := n9_
         have HB := n10_
         clear n0_ n1_ n2_ n3_ n4_ n5_ n6_ n7_ n8_ n9_ n10_
         have hHeld : w35.cell? ⟨gb295, 0, none⟩ = some (.int .i64 a0_0) ∧ w35.cell? ⟨gb295, 1, none⟩ = some (.int .i64 a0_1) ∧ w35.cell? ⟨gb295, 2, none⟩ = some (.slice A0_2 l0_2.length c0_2) := hS_
         obtain ⟨Ao36, co36, eo36⟩ := Kd.R_slice HO302.out
         (first | subst eo36 | (injection eo36 with f1_ f2_ f3_; have f4_ := f1_.symm; have f5_ := f3_.symm; clear f1_ f2_ f3_; subst f4_; subst f5_))
         refine norm_ (a' := ?_) ?_ ?_
         rotate_left
         ·simp only [putAll, Act.put, sI_, s0_, sS_]
          rfl
         refine one_ (i := 9) (N := none) #[true, true, true, true, true, true, true, true, true, true] rfl rfl (one_of HT_.out (by kernel_rfl)) (by decide) (fun K hK => ?_)
         have hs37 : w35.cell? ⟨gb303, 0, none⟩ = some (.int .i64 0) := (blk_cell BK303.out 0).trans rfl
         have hfs37 := blk_frozen BK303.out 0
         have hns37_0 := NB295_303.out
         have hns37_1 := NB296_303.out
         have hms37_0 := NB303_295.out
         have hms37_1 := NB303_296.out
         have hs38 : w35.cell? ⟨gb303, 1, none⟩ = some (.int .i64 0) := (blk_cell BK303.out 1).trans rfl
         have hfs38 := blk_frozen BK303.out 1
         have hns38_0 := NB295_303.out
         have hns38_1 := NB296_303.out
         have hms38_0 := NB303_295.out
         have hms38_1 := NB303_296.out
         have hs39 : w35.cell? ⟨gb303, 2, none⟩ = some (.slice none 0 0) := (blk_cell BK303.out 2).trans rfl
         have hfs39 := blk_frozen BK303.out 2
         have hns39_0 := NB295_303.out
         have hns39_1 := NB296_303.out
         have hms39_0 := NB303_295.out
         have hms39_1 := NB303_296.out
         refine skip_ (w1 := ?_) (by rfl) rfl ?_ ?_
         rotate_left
         ·go_simp
          rfl
         refine hK.out _ _ ⟨((cell_far (p := ⟨gb303, _, none⟩) NB295_303.out _).trans (((cell_far (p := ⟨gb303, _, none⟩) NB295_303.out _).trans (((cell_far (p := ⟨gb303, _, none⟩) NB295_303.out _).trans (hHeld.1)))))), ((cell_far (p := ⟨gb303, _, none⟩) NB295_303.out _).trans (((cell_far (p := ⟨gb303, _, none⟩) NB295_303.out _).trans (((cell_far (p := ⟨gb303, _, none⟩) NB295_303.out _).trans (hHeld.2.1)))))), ((cell_far (p := ⟨gb303, _, none⟩) NB295_303.out _).trans (((cell_far (p := ⟨gb303, _, none⟩) NB295_303.out _).trans (((cell_far (p := ⟨gb303, _, none⟩) NB295_303.out _).trans (hHeld.2.2))))))⟩ (fun hHeld => ?_)
         clear hK K
         refine done_ (done_of HT_.out (by kernel_rfl)) ?_
         try go_wp2
         go_loopg [15, 67] k2 (fun kq v15 v67 w' => ∃ (x15_3 : Int) (x67_3 : Int) (x297000_3 : Int) (x297001_3 : Int) (x304000_3 : Int) (x304001_3 : Int) (x304002_3 : List Int) (u304002 : Value), v15 = .int .i64 x15_3 ∧ v67 = .int .i64 x67_3 ∧ Aside0 (land_Level.l1 kq a2 l3 x15_3 l1 (l1.length : Int) x67_3 a0_0 a0_1 l0_2 x304000_3 x304001_3 x304002_3 = some (r1, r2, r3, r4, r5)) ∧ Aside0 (kq ≤ k2) ∧ Aside0 (Kd.R (Kd.int .i64) 3 w' w.heap.size (fun _ => True) u304002 x304002_3) ∧ Aside0 (w'.heap[gb295]? = some (.cells #[.int .i64 a0_0, .int .i64 a0_1, (.slice A0_2 l0_2.length c0_2)] 24 (0, 0))) ∧ Aside0 (w'.heap[gb296]? = some (.cells #[.int .i64 x297000_3, .int .i64 x297001_3, (.slice none 0 0)] 24 (0, 0))) ∧ Aside0 (w'.heap[gb303]? = some (.cells #[.int .i64 x304000_3, .int .i64 x304001_3, u304002] 24 (0, 0))) ∧ Aside0 (Below w.heap.size w w'))
         case atStart => exact ⟨(0), (0), (x297000_2), (x297001_2), (a0_0), (a0_1), (y300), (.slice Ao36 y300.length co36), tS_, tS_, H', ⟨Nat.le_refl _⟩, ⟨by (with_reducible repeat (first | apply Kd.R_alloc | apply Kd.R_drewN | apply Kd.R_drew)); exact Kd.R_mono (Kd.R_far (p := ⟨gb303, 2, none⟩) (Kd.R_far (p := ⟨gb303, 1, none⟩) (Kd.R_far (p := ⟨gb303, 0, none⟩) (Kd.R_types HO302.out BK303.out (by decide)) (fun _ hk => hk.2) (.int .i64 a0_0)) (fun _ hk => hk.2) (.int .i64 a0_1)) (fun _ hk => hk.2) (.slice Ao36 y300.length co36)) (fun _ hk => trivial)⟩, ⟨by (with_reducible repeat (first | refine blk_drewN ?_ _ | refine blk_drew ?_ | refine blk_alloc ?_ _)); refine blk_far ?_ NB295_303.out _; (with_reducible repeat (first | refine blk_drewN ?_ _ | refine blk_drew ?_ | refine blk_alloc ?_ _)); refine blk_far ?_ NB295_303.out _; (with_reducible repeat (first | refine blk_drewN ?_ _ | refine blk_drew ?_ | refine blk_alloc ?_ _)); refine blk_far ?_ NB295_303.out _; (with_reducible repeat (first | refine blk_drewN ?_ _ | refine blk_drew ?_ | refine blk_alloc ?_ _)); exact BK295.out⟩, ⟨by (with_reducible repeat (first | refine blk_drewN ?_ _ | refine blk_drew ?_ | refine blk_alloc ?_ _)); refine blk_far ?_ NB296_303.out _; (with_reducible repeat (first | refine blk_drewN ?_ _ | refine blk_drew ?_ | refine blk_alloc ?_ _)); refine blk_far ?_ NB296_303.out _; (with_reducible repeat (first | refine blk_drewN ?_ _ | refine blk_drew ?_ | refine blk_alloc ?_ _)); refine blk_far ?_ NB296_303.out _; (with_reducible repeat (first | refine blk_drewN ?_ _ | refine blk_drew ?_ | refine blk_alloc ?_ _)); exact BK296.out⟩, ⟨by (with_reducible repeat (first | refine blk_drewN ?_ _ | refine blk_drew ?_ | refine blk_alloc ?_ _)); refine blk_put (cs := #[.int .i64 a0_0, .int .i64 a0_1, .slice none 0 0]) ?_ 2 _ rfl; (with_reducible repeat (first | refine blk_drewN ?_ _ | refine blk_drew ?_ | refine blk_alloc ?_ _)); refine blk_put (cs := #[.int .i64 a0_0, .int .i64 0, .slice none 0 0]) ?_ 1 _ rfl; (with_reducible repeat (first | refine blk_drewN ?_ _ | refine blk_drew ?_ | refine blk_alloc ?_ _)); refine blk_put (cs := #[.int .i64 0, .int .i64 0, .slice none 0 0]) ?_ 0 _ rfl; (with_reducible repeat (first | refine blk_drewN ?_ _ | refine blk_drew ?_ | refine blk_alloc ?_ _)); exact BK303.out⟩, ⟨dL3_ HB GE295 GE296 GE303⟩⟩
         case round =>
          clear H'
          try clear c1
          try clear c3
          try clear c6
          try clear c6b0
          try clear c6b1
          try clear c13
          try clear c14
          try clear c15
          try clear c18
          try clear c18b0
          try clear c19
          try clear c20
          try clear c30
          try clear hcz11_0
          try clear hcz11_1
          try clear hcz11_2
          try clear hfz11_0
          try clear hfz11_1
          try clear hfz11_2
          obtain ⟨x15_3, x67_3, x297000_3, x297001_3, x304000_3, x304001_3, x304002_3, u304002, rfl, rfl, HA, HK3, HO_304002, BK295, BK296, BK303, HB⟩ := hrel
          cases gk with
          | zero => exact absurd HA.out (by simp [land_Level.l1])
          | succ k3 =>
           have H := HA.out
           clear HA
           simp only [land_Level.l1] at H
           by_cases c40 : x67_3 < (l1.length : Int)
           ·rw [if_pos c40] at H
            have c40b0 : decide (x67_3 < (l1.length : Int)) = true := decide_eq_true c40
            clear c40
            by_cases c41 : 0 ≤ x67_3
            ·rw [if_pos c41] at H
             have c41b0 : decide (0 ≤ x67_3) = true := decide_eq_true c41
             clear c41
             by_cases c42 : x67_3 < (l1.length : Int)
             ·rw [if_pos c42] at H
              have c42b0 : decide (x67_3 < (l1.length : Int)) = true := decide_eq_true c42
              clear c42
              by_cases c43 : a0_0 = 0
              ·rw [if_pos c43] at H
               exact absurd H (by simp)
              ·rw [if_neg c43] at H
               have c43b0 : (a0_0 == 0) = false := beq_eq_false_iff_ne.mpr c43
               have c43b1 : (a0_0 != 0) = true := bne_iff_ne.mpr c43
               have H' := Aside0.mk H
               clear H
               have p304 : 0 ≤ (x67_3 : Int) := of_decide_eq_true tW_
               have q304 : x67_3 < (l1.length : Int) := of_decide_eq_true tW_
               obtain ⟨ad304, e304, hx304_0⟩ := Kd.at_int HR1.out x67_3 p304 q304
               cases e304
               replace hx304_0 := bc_ HB hx304_0
               replace p304 := eq_true p304
               replace q304 := eq_true q304
               try go_wp2
               replace HO_304002 := Aside0.mk (Kd.R_drew HO_304002.out)
               replace BK295 := Aside0.mk (blk_drew BK295.out)
               replace BK296 := Aside0.mk (blk_drew BK296.out)
               replace BK303 := Aside0.mk (blk_drew BK303.out)
               replace HB := Aside0.mk (below_drew1 HB.out)
               refine start_ (n := 10) (S := fun w' => w'.cell? ⟨gb295, 0, none⟩ = some (.int .i64 a0_0) ∧ w'.cell? ⟨gb295, 1, none⟩ = some (.int .i64 a0_1) ∧ w'.cell? ⟨gb295, 2, none⟩ = some (.slice A0_2 l0_2.length c0_2)) (ds := []) #[false, false, false, false, false, false, false, false, false, false] (by kernel_rfl) rfl rfl ⟨(blk_cell BK295.out 0).trans rfl, (blk_cell BK295.out 1).trans rfl, (blk_cell BK295.out 2).trans rfl⟩ (fun hHeld => ?_); refine with_tabW land_Level.tab17 land_Level.bits17 (fun HT_ HW_ => ?_)
               generalize wr.drew = w44 at HO_304002 BK295 BK296 BK303 HB hHeld ⊢
               refine pure_ (i := 0) (N := some 71) (v := ?_) (a' := ?_) #[true, false, false, false, false, false, false, false, false, false] rfl rfl (any_of HT_.out (by kernel_rfl)) (fun _ _ _ h => h) (Or.inl ⟨by rfl, ?_⟩) ?_ ?_
               rotate_left
               ·intro w'
                go_simp
                with_reducible rfl
               rotate_left
               ·simp only [Act.put, sI_, s0_, sS_, i64_w, i32_w]
                rfl
               refine pure_ (i := 1) (N := some 72) (v := ?_) (a' := ?_) #[true, true, false, false, false, false, false, false, false, false] rfl rfl (any_of HT_.out (by kernel_rfl)) (fun _ _ _ h => h) (Or.inl ⟨by rfl, ?_⟩) ?_ ?_
               rotate_left
               ·intro w'
                go_simp
                with_reducible rfl
               rotate_left
               ·simp only [Act.put, sI_, s0_, sS_, i64_w, i32_w]
                rfl
               refine pure_ (i := 4) (N := some 75) (v := ?_) (a' := ?_) #[true, true, false, false, true, false, false, false, false, false] rfl rfl (any_of HT_.out (by kernel_rfl)) (fun _ _ _ h => h) (Or.inl ⟨by rfl, ?_⟩) ?_ ?_
               rotate_left
               ·intro w'
                go_simp
                with_reducible rfl
               rotate_left
               ·simp only [Act.put, sI_, s0_, sS_, i64_w, i32_w]
                rfl
               refine pure_ (i := 5) (N := some 76) (v := ?_) (a' := ?_) #[true, true, false, false, true, true, false, false, false, false] rfl rfl (any_of HT_.out (by kernel_rfl)) (fun _ _ _ h => h) (Or.inl ⟨by rfl, ?_⟩) ?_ ?_
               rotate_left
               ·intro w'
                go_simp
                with_reducible rfl
               rotate_left
               ·simp only [Act.put, sI_, s0_, sS_, i64_w, i32_w]
                rfl
               refine take_ (i := 2) (N := some 73) (v := ?_) (a' := ?_) #[true, true, true, false, true, true, false, false, false, false] rfl rfl (take_ofW HT_.out HW_.out (by kernel_rfl)) (fun _ _ _ h => h) (Or.inl ⟨by rfl, ?_⟩) hHeld ?_ ?_
               rotate_left
               ·rintro w' ⟨s0, s1, s2⟩
                go_simp
                with_reducible rfl
               rotate_left
               ·simp only [Act.put, sI_, s0_, sS_, i64_w, i32_w]
                rfl
               refine pure_ (i := 3) (N := some 74) (v := ?_) (a' := ?_) #[true, true, true, true, true, true, false, false, false, false] rfl rfl (any_of HT_.out (by kernel_rfl)) (fun _ _ _ h => h) (Or.inl ⟨by rfl, ?_⟩) ?_ ?_
               rotate_left
               ·intro w'
                go_simp
                with_reducible rfl
               rotate_left
               ·simp only [Act.put, sI_, s0_, sS_, i64_w, i32_w]
                rfl
               refine pure_ (i := 8) (N := some 18) (v := ?_) (a' := ?_) #[true, true, true, true, true, true, false, false, true, false] rfl rfl (any_of HT_.out (by kernel_rfl)) (fun _ _ _ h => h) (Or.inl ⟨by rfl, ?_⟩) ?_ ?_
               rotate_left
               ·intro w'
                go_simp
                with_reducible rfl
               rotate_left
               ·simp only [Act.put, sI_, s0_, sS_, i64_w, i32_w]
                rfl
               refine take_ (i := 6) (N := some 77) (v := ?_) (a' := ?_) #[true, true, true, true, true, true, true, false, true, false] rfl rfl (take_ofW HT_.out HW_.out (by kernel_rfl)) (fun _ _ _ h => h) (Or.inl ⟨by rfl, ?_⟩) hHeld ?_ ?_
               rotate_left
               ·rintro w' ⟨s0, s1, s2⟩
                go_simp
                with_reducible rfl
               rotate_left
               ·simp only [Act.put, sI_, s0_, sS_, i64_w, i32_w]
                rfl
               refine pure_ (i := 7) (N := some 78) (v := ?_) (a' := ?_) #[true, true, true, true, true, true, true, true, true, false] rfl rfl (any_of HT_.out (by kernel_rfl)) (fun _ _ _ h => h) (Or.inl ⟨by rfl, ?_⟩) ?_ ?_
               rotate_left
               ·intro w'
                go_simp
                with_reducible rfl
               rotate_left
               ·simp only [Act.put, sI_, s0_, sS_, i64_w, i32_w]
                rfl
               refine pure_ (i := 9) (N := some 19) (v := ?_) (a' := ?_) #[true, true, true, true, true, true, true, true, true, true] rfl rfl (any_of HT_.out (by kernel_rfl)) (fun _ _ _ h => h) (Or.inl ⟨by rfl, ?_⟩) ?_ ?_
               rotate_left
               ·intro w'
                go_simp
                with_reducible rfl
               rotate_left
               ·simp only [Act.put, sI_, s0_, sS_, i64_w, i32_w]
                rfl
               refine done_ (done_of HT_.out (by kernel_rfl)) ?_
               try go_wp2
               go_loopg [15, 96] k3 (fun kq v15 v96 w' => ∃ (x15_4 : Int) (x96_4 : Int) (x297000_4 : Int) (x297001_4 : Int) (x304000_4 : Int) (x304001_4 : Int) (x304002_4 : List Int) (u304002 : Value), v15 = .int .i64 x15_4 ∧ v96 = .int .i64 x96_4 ∧ Aside0 (land_Level.l2 kq a2 l3 x15_4 l1 (l1.length : Int) x67_3 x96_4 a0_0 a0_1 l0_2 x304000_4 x304001_4 x304002_4 (Int.tmod (rd l1 x67_3) a0_0) (wrap64 (Int.tdiv (rd l1 x67_3) a0_0)) (wrap64 ((Int.tmod (rd l1 x67_3) a0_0) + 1)) (wrap64 (Int.tdiv (rd l1 x67_3) a0_0)) (wrap64 ((Int.tmod (rd l1 x67_3) a0_0) + 1)) (wrap64 ((wrap64 (Int.tdiv (rd l1 x67_3) a0_0)) + 1)) (Int.tmod (rd l1 x67_3) a0_0) (wrap64 ((wrap64 (Int.tdiv (rd l1 x67_3) a0_0)) + 1)) = some (r1, r2, r3, r4, r5)) ∧ Aside0 (kq ≤ k3) ∧ Aside0 (Kd.R (Kd.int .i64) 3 w' w.heap.size (fun _ => True) u304002 x304002_4) ∧ Aside0 (w'.heap[gb295]? = some (.cells #[.int .i64 a0_0, .int .i64 a0_1, (.slice A0_2 l0_2.length c0_2)] 24 (0, 0))) ∧ Aside0 (w'.heap[gb296]? = some (.cells #[.int .i64 x297000_4, .int .i64 x297001_4, (.slice none 0 0)] 24 (0, 0))) ∧ Aside0 (w'.heap[gb303]? = some (.cells #[.int .i64 x304000_4, .int .i64 x304001_4, u304002] 24 (0, 0))) ∧ Aside0 (Below w.heap.size w w'))
               case atStart => exact ⟨(x15_3), (0), (x297000_3), (x297001_3), (x304000_3), (x304001_3), (x304002_3), (u304002), tS_, tS_, H', ⟨Nat.le_refl _⟩, ⟨dR_ HO_304002⟩, ⟨dB_ BK295⟩, ⟨dB_ BK296⟩, ⟨dB_ BK303⟩, ⟨dL3_ HB GE295 GE296 GE303⟩⟩
               case round =>
                clear H'
                try clear c1
                try clear c3
                try clear c6
                try clear c6b0
                try clear c6b1
                try clear c13
                try clear c14
                try clear c15
                try clear c18
                try clear c18b0
                try clear c19
                try clear c20
                try clear c30
                try clear c40
                try clear c40b0
                try clear c41
                try clear c41b0
                try clear c42
                try clear c42b0
                try clear c43
                try clear c43b0
                try clear c43b1
                try clear hcz11_0
                try clear hcz11_1
                try clear hcz11_2
                try clear hfz11_0
                try clear hfz11_1
                try clear hfz11_2
                try clear hx304_0
                try clear p304
                try clear q304
                obtain ⟨x15_4, x96_4, x297000_4, x297001_4, x304000_4, x304001_4, x304002_4, u304002, rfl, rfl, HA, HK4, HO_304002, BK295, BK296, BK303, HB⟩ := hrel
                cases gk with
                | zero => exact absurd HA.out (by simp [land_Level.l2])
                | succ k4 =>
                 have H := HA.out
                 clear HA
                 simp only [land_Level.l2] at H
                 by_cases c45 : x96_4 < 4
                 ·rw [if_pos c45] at H
                  have c45b0 : decide (x96_4 < 4) = true := decide_eq_true c45
                  clear c45
                  by_cases c46 : 0 ≤ x96_4
                  ·rw [if_pos c46] at H
                   have c46b0 : decide (0 ≤ x96_4) = true := decide_eq_true c46
                   clear c46
                   have H' := Aside0.mk H
                   clear H
                   have pr47 : 0 ≤ (x96_4 : Int) := of_decide_eq_true tW_
                   have qr47 : (x96_4 : Int) < 4 := of_decide_eq_true tW_
                   have har47 : ∀ w_ : World, (Instr.index 70 (.agg #[.int .i64 (Int.tmod (rd l1 x67_3) a0_0), .int .i64 (wrap64 (Int.tdiv (rd l1 x67_3) a0_0)), .int .i64 (wrap64 ((Int.tmod (rd l1 x67_3) a0_0) + 1)), .int .i64 (wrap64 (Int.tdiv (rd l1 x67_3) a0_0)), .int .i64 (wrap64 ((Int.tmod (rd l1 x67_3) a0_0) + 1)), .int .i64 (wrap64 ((wrap64 (Int.tdiv (rd l1 x67_3) a0_0)) + 1)), .int .i64 (Int.tmod (rd l1 x67_3) a0_0), .int .i64 (wrap64 ((wrap64 (Int.tdiv (rd l1 x67_3) a0_0)) + 1))]) (.int .i64 x96_4)).run Try.prog w_ = .ok (.agg #[.int .i64 (rd [(Int.tmod (rd l1 x67_3) a0_0), (wrap64 ((Int.tmod (rd l1 x67_3) a0_0) + 1)), (wrap64 ((Int.tmod (rd l1 x67_3) a0_0) + 1)), (Int.tmod (rd l1 x67_3) a0_0)] x96_4), .int .i64 (rd [(wrap64 (Int.tdiv (rd l1 x67_3) a0_0)), (wrap64 (Int.tdiv (rd l1 x67_3) a0_0)), (wrap64 ((wrap64 (Int.tdiv (rd l1 x67_3) a0_0)) + 1)), (wrap64 ((wrap64 (Int.tdiv (rd l1 x67_3) a0_0)) + 1))] x96_4)]) w_ := fun w_ => run_arr2 Try.underlying70 Try.underlying69 rfl (by kernel_rfl) .i64 [(Int.tmod (rd l1 x67_3) a0_0), (wrap64 ((Int.tmod (rd l1 x67_3) a0_0) + 1)), (wrap64 ((Int.tmod (rd l1 x67_3) a0_0) + 1)), (Int.tmod (rd l1 x67_3) a0_0)] [(wrap64 (Int.tdiv (rd l1 x67_3) a0_0)), (wrap64 (Int.tdiv (rd l1 x67_3) a0_0)), (wrap64 ((wrap64 (Int.tdiv (rd l1 x67_3) a0_0)) + 1)), (wrap64 ((wrap64 (Int.tdiv (rd l1 x67_3) a0_0)) + 1))] rfl x96_4 pr47 qr47 w_
                   go_wp2_with (first | ((with_reducible refine gate_dst (N := 21) rfl ?_); (try (refine gate_guard (by rfl) ?_; dsimp only)); refine box_event ?hg (N := 21) ?hd (cs := #[.int .i64 0, .int .i64 0]) (t := 69) ?hr ?_; (case hd => rfl); (case hg => rfl); (case hr => first | (go_simp; done) | (go_simp; rfl)); intro gb305 hg w48 hbox hb; replace HO_304002 := Aside0.mk (Kd.R_below (dR_ HO_304002) hb); have BK305 := Aside0.mk (hbox); have GW305 := Aside0.mk ((dS_ hg (dL3_ HB GE295 GE296 GE303) : w.heap.size ≤ gb305)); have GE305 := Aside0.mk ((dS_ hg (dL3_ HB GE295 GE296 GE303) : w.heap.size ≤ gb305)); replace HB := Aside0.mk (below_step (dL3_ HB GE295 GE296 GE303) hb); have NB295_305 := Aside0.mk ((by rw [hg]; exact Nat.ne_of_lt (blk_lt (dB_ BK295)) : gb295 ≠ gb305)); have NB305_295 := Aside0.mk ((by rw [hg]; exact Nat.ne_of_gt (blk_lt (dB_ BK295)) : gb305 ≠ gb295)); replace BK295 := Aside0.mk (blk_below (g := gb295) (o := .cells #[.int .i64 a0_0, .int .i64 a0_1, .slice A0_2 l0_2.length c0_2] 24 (0, 0)) (dB_ BK295) hb); have NB296_305 := Aside0.mk ((by rw [hg]; exact Nat.ne_of_lt (blk_lt (dB_ BK296)) : gb296 ≠ gb305)); have NB305_296 := Aside0.mk ((by rw [hg]; exact Nat.ne_of_gt (blk_lt (dB_ BK296)) : gb305 ≠ gb296)); replace BK296 := Aside0.mk (blk_below (g := gb296) (o := .cells #[.int .i64 x297000_4, .int .i64 x297001_4, .slice none 0 0] 24 (0, 0)) (dB_ BK296) hb); have NB303_305 := Aside0.mk ((by rw [hg]; exact Nat.ne_of_lt (blk_lt (dB_ BK303)) : gb303 ≠ gb305)); have NB305_303 := Aside0.mk ((by rw [hg]; exact Nat.ne_of_gt (blk_lt (dB_ BK303)) : gb305 ≠ gb303)); replace BK303 := Aside0.mk (blk_below (g := gb303) (o := .cells #[.int .i64 x304000_4, .int .i64 x304001_4, u304002] 24 (0, 0)) (dB_ BK303) hb); clear hb hbox hg; have hnb49 := NB305_295.out; have hnc49 := NB295_305.out; have hnb50 := NB305_296.out; have hnc50 := NB296_305.out; have hnb51 := NB305_303.out; have hnc51 := NB303_305.out; obtain ⟨hcz52_0, hcz52_1, hfz52_0, hfz52_1⟩ := cs2_ BK305.out))
                   go_loopg [15] k4 (fun kq v15 w' => ∃ (x15_5 : Int) (x297000_5 : Int) (x297001_5 : Int) (x304000_5 : Int) (x304001_5 : Int) (x304002_5 : List Int) (u304002 : Value), v15 = .int .i64 x15_5 ∧ Aside0 (land_Level.l3 kq a2 l3 x15_5 l1 (l1.length : Int) x67_3 x96_4 a0_0 a0_1 l0_2 x304000_5 x304001_5 x304002_5 (rd [(Int.tmod (rd l1 x67_3) a0_0), (wrap64 ((Int.tmod (rd l1 x67_3) a0_0) + 1)), (wrap64 ((Int.tmod (rd l1 x67_3) a0_0) + 1)), (Int.tmod (rd l1 x67_3) a0_0)] x96_4) (rd [(wrap64 (Int.tdiv (rd l1 x67_3) a0_0)), (wrap64 (Int.tdiv (rd l1 x67_3) a0_0)), (wrap64 ((wrap64 (Int.tdiv (rd l1 x67_3) a0_0)) + 1)), (wrap64 ((wrap64 (Int.tdiv (rd l1 x67_3) a0_0)) + 1))] x96_4) (Int.tmod (rd l1 x67_3) a0_0) (wrap64 (Int.tdiv (rd l1 x67_3) a0_0)) (wrap64 ((Int.tmod (rd l1 x67_3) a0_0) + 1)) (wrap64 (Int.tdiv (rd l1 x67_3) a0_0)) (wrap64 ((Int.tmod (rd l1 x67_3) a0_0) + 1)) (wrap64 ((wrap64 (Int.tdiv (rd l1 x67_3) a0_0)) + 1)) (Int.tmod (rd l1 x67_3) a0_0) (wrap64 ((wrap64 (Int.tdiv (rd l1 x67_3) a0_0)) + 1)) = some (r1, r2, r3, r4, r5)) ∧ Aside0 (kq ≤ k4) ∧ Aside0 (Kd.R (Kd.int .i64) 3 w' w.heap.size (fun _ => True) u304002 x304002_5) ∧ Aside0 (w'.heap[gb295]? = some (.cells #[.int .i64 a0_0, .int .i64 a0_1, (.slice A0_2 l0_2.length c0_2)] 24 (0, 0))) ∧ Aside0 (w'.heap[gb296]? = some (.cells #[.int .i64 x297000_5, .int .i64 x297001_5, (.slice none 0 0)] 24 (0, 0))) ∧ Aside0 (w'.heap[gb303]? = some (.cells #[.int .i64 x304000_5, .int .i64 x304001_5, u304002] 24 (0, 0))) ∧ Aside0 (w'.heap[gb305]? = some (.cells #[.int .i64 (rd [(Int.tmod (rd l1 x67_3) a0_0), (wrap64 ((Int.tmod (rd l1 x67_3) a0_0) + 1)), (wrap64 ((Int.tmod (rd l1 x67_3) a0_0) + 1)), (Int.tmod (rd l1 x67_3) a0_0)] x96_4), .int .i64 (rd [(wrap64 (Int.tdiv (rd l1 x67_3) a0_0)), (wrap64 (Int.tdiv (rd l1 x67_3) a0_0)), (wrap64 ((wrap64 (Int.tdiv (rd l1 x67_3) a0_0)) + 1)), (wrap64 ((wrap64 (Int.tdiv (rd l1 x67_3) a0_0)) + 1))] x96_4)] 69 (0, 0))) ∧ Aside0 (Below w.heap.size w w'))
                   case atStart => exact ⟨(x15_4), (x297000_4), (x297001_4), (x304000_4), (x304001_4), (x304002_4), (u304002), tS_, H', ⟨Nat.le_refl _⟩, ⟨by (with_reducible repeat (first | apply Kd.R_alloc | apply Kd.R_drewN | apply Kd.R_drew)); exact Kd.R_mono (Kd.R_far (p := ⟨gb305, 1, none⟩) (Kd.R_far (p := ⟨gb305, 0, none⟩) (Kd.R_types HO_304002.out BK305.out (by decide)) (fun _ hk => hk.2) (.int .i64 (rd [(Int.tmod (rd l1 x67_3) a0_0), (wrap64 ((Int.tmod (rd l1 x67_3) a0_0) + 1)), (wrap64 ((Int.tmod (rd l1 x67_3) a0_0) + 1)), (Int.tmod (rd l1 x67_3) a0_0)] x96_4))) (fun _ hk => hk.2) (.int .i64 (rd [(wrap64 (Int.tdiv (rd l1 x67_3) a0_0)), (wrap64 (Int.tdiv (rd l1 x67_3) a0_0)), (wrap64 ((wrap64 (Int.tdiv (rd l1 x67_3) a0_0)) + 1)), (wrap64 ((wrap64 (Int.tdiv (rd l1 x67_3) a0_0)) + 1))] x96_4))) (fun _ hk => trivial)⟩, ⟨by (with_reducible repeat (first | refine blk_drewN ?_ _ | refine blk_drew ?_ | refine blk_alloc ?_ _)); refine blk_far ?_ NB295_305.out _; (with_reducible repeat (first | refine blk_drewN ?_ _ | refine blk_drew ?_ | refine blk_alloc ?_ _)); refine blk_far ?_ NB295_305.out _; (with_reducible repeat (first | refine blk_drewN ?_ _ | refine blk_drew ?_ | refine blk_alloc ?_ _)); exact BK295.out⟩, ⟨by (with_reducible repeat (first | refine blk_drewN ?_ _ | refine blk_drew ?_ | refine blk_alloc ?_ _)); refine blk_far ?_ NB296_305.out _; (with_reducible repeat (first | refine blk_drewN ?_ _ | refine blk_drew ?_ | refine blk_alloc ?_ _)); refine blk_far ?_ NB296_305.out _; (with_reducible repeat (first | refine blk_drewN ?_ _ | refine blk_drew ?_ | refine blk_alloc ?_ _)); exact BK296.out⟩, ⟨by (with_reducible repeat (first | refine blk_drewN ?_ _ | refine blk_drew ?_ | refine blk_alloc ?_ _)); refine blk_far ?_ NB303_305.out _; (with_reducible repeat (first | refine blk_drewN ?_ _ | refine blk_drew ?_ | refine blk_alloc ?_ _)); refine blk_far ?_ NB303_305.out _; (with_reducible repeat (first | refine blk_drewN ?_ _ | refine blk_drew ?_ | refine blk_alloc ?_ _)); exact BK303.out⟩, ⟨by (with_reducible repeat (first | refine blk_drewN ?_ _ | refine blk_drew ?_ | refine blk_alloc ?_ _)); refine blk_put (cs := #[.int .i64 (rd [(Int.tmod (rd l1 x67_3) a0_0), (wrap64 ((Int.tmod (rd l1 x67_3) a0_0) + 1)), (wrap64 ((Int.tmod (rd l1 x67_3) a0_0) + 1)), (Int.tmod (rd l1 x67_3) a0_0)] x96_4), .int .i64 0]) ?_ 1 _ rfl; (with_reducible repeat (first | refine blk_drewN ?_ _ | refine blk_drew ?_ | refine blk_alloc ?_ _)); refine blk_put (cs := #[.int .i64 0, .int .i64 0]) ?_ 0 _ rfl; (with_reducible repeat (first | refine blk_drewN ?_ _ | refine blk_drew ?_ | refine blk_alloc ?_ _)); exact BK305.out⟩, ⟨dL4_ HB GE295 GE296 GE303 GE305⟩⟩
                   case round =>
                    clear H'
                    try clear c1
                    try clear c3
                    try clear c6
                    try clear c6b0
                    try clear c6b1
                    try clear c13
                    try clear c14
                    try clear c15
                    try clear c18
                    try clear c18b0
                    try clear c19
                    try clear c20
                    try clear c30
                    try clear c40
                    try clear c40b0
                    try clear c41
                    try clear c41b0
                    try clear c42
                    try clear c42b0
                    try clear c43
                    try clear c43b0
                    try clear c43b1
                    try clear c45
                    try clear c45b0
                    try clear c46
                    try clear c46b0
                    try clear hcz11_0
                    try clear hcz11_1
                    try clear hcz11_2
                    try clear hcz52_0
                    try clear hcz52_1
                    try clear hfz11_0
                    try clear hfz11_1
                    try clear hfz11_2
                    try clear hfz52_0
                    try clear hfz52_1
                    try clear hx304_0
                    try clear p304
                    try clear q304
                    obtain ⟨x15_5, x297000_5, x297001_5, x304000_5, x304001_5, x304002_5, u304002, rfl, HA, HK5, HO_304002, BK295, BK296, BK303, BK305, HB⟩ := hrel
                    cases gk with
                    | zero => exact absurd HA.out (by simp [land_Level.l3])
                    | succ k5 =>
                     have H := HA.out
                     clear HA
                     simp only [land_Level.l3] at H
                     obtain ⟨ji53, hji53⟩ : ∃ j_ : Int, (wrap64 ((wrap64 ((rd [(wrap64 (Int.tdiv (rd l1 x67_3) a0_0)), (wrap64 (Int.tdiv (rd l1 x67_3) a0_0)), (wrap64 ((wrap64 (Int.tdiv (rd l1 x67_3) a0_0)) + 1)), (wrap64 ((wrap64 (Int.tdiv (rd l1 x67_3) a0_0)) + 1))] x96_4) * (wrap64 (a0_0 + 1)))) + (rd [(Int.tmod (rd l1 x67_3) a0_0), (wrap64 ((Int.tmod (rd l1 x67_3) a0_0) + 1)), (wrap64 ((Int.tmod (rd l1 x67_3) a0_0) + 1)), (Int.tmod (rd l1 x67_3) a0_0)] x96_4))) = j_ := ⟨_, rfl⟩
                     replace H : (if 0 ≤ (ji53) then (if (ji53) < (x304002_5.length : Int) then (if (rd x304002_5 (ji53)) = a2 then (land_Level.l2 k5 a2 l3 x15_5 l1 (l1.length : Int) x67_3 (wrap64 (x96_4 + 1)) a0_0 a0_1 l0_2 x304000_5 x304001_5 x304002_5 (Int.tmod (rd l1 x67_3) a0_0) (wrap64 (Int.tdiv (rd l1 x67_3) a0_0)) (wrap64 ((Int.tmod (rd l1 x67_3) a0_0) + 1)) (wrap64 (Int.tdiv (rd l1 x67_3) a0_0)) (wrap64 ((Int.tmod (rd l1 x67_3) a0_0) + 1)) (wrap64 ((wrap64 (Int.tdiv (rd l1 x67_3) a0_0)) + 1)) (Int.tmod (rd l1 x67_3) a0_0) (wrap64 ((wrap64 (Int.tdiv (rd l1 x67_3) a0_0)) + 1))) else ((land_Shift.f k5 x304000_5 x304001_5 x304002_5 (rd [(Int.tmod (rd l1 x67_3) a0_0), (wrap64 ((Int.tmod (rd l1 x67_3) a0_0) + 1)), (wrap64 ((Int.tmod (rd l1 x67_3) a0_0) + 1)), (Int.tmod (rd l1 x67_3) a0_0)] x96_4) (rd [(wrap64 (Int.tdiv (rd l1 x67_3) a0_0)), (wrap64 (Int.tdiv (rd l1 x67_3) a0_0)), (wrap64 ((wrap64 (Int.tdiv (rd l1 x67_3) a0_0)) + 1)), (wrap64 ((wrap64 (Int.tdiv (rd l1 x67_3) a0_0)) + 1))] x96_4) (decide ((rd x304002_5 (ji53)) < a2)) l3).bind fun bt307 => (if bt307.2.2.2.2.2 = 0 then (land_Level.l3 k5 a2 l3 (wrap64 (x15_5 + bt307.2.2.2.2.1)) l1 (l1.length : Int) x67_3 x96_4 a0_0 a0_1 l0_2 bt307.1 bt307.2.1 bt307.2.2.1 (rd [(Int.tmod (rd l1 x67_3) a0_0), (wrap64 ((Int.tmod (rd l1 x67_3) a0_0) + 1)), (wrap64 ((Int.tmod (rd l1 x67_3) a0_0) + 1)), (Int.tmod (rd l1 x67_3) a0_0)] x96_4) (rd [(wrap64 (Int.tdiv (rd l1 x67_3) a0_0)), (wrap64 (Int.tdiv (rd l1 x67_3) a0_0)), (wrap64 ((wrap64 (Int.tdiv (rd l1 x67_3) a0_0)) + 1)), (wrap64 ((wrap64 (Int.tdiv (rd l1 x67_3) a0_0)) + 1))] x96_4) (Int.tmod (rd l1 x67_3) a0_0) (wrap64 (Int.tdiv (rd l1 x67_3) a0_0)) (wrap64 ((Int.tmod (rd l1 x67_3) a0_0) + 1)) (wrap64 (Int.tdiv (rd l1 x67_3) a0_0)) (wrap64 ((Int.tmod (rd l1 x67_3) a0_0) + 1)) (wrap64 ((wrap64 (Int.tdiv (rd l1 x67_3) a0_0)) + 1)) (Int.tmod (rd l1 x67_3) a0_0) (wrap64 ((wrap64 (Int.tdiv (rd l1 x67_3) a0_0)) + 1))) else (some (0, 0, ([] : List Int), 0, bt307.2.2.2.2.2))))) else (none)) else (none)) = some (r1, r2, r3, r4, r5) := by first | (rw [hji53] at H; exact H) | (simp only [hji53] at H ⊢; exact H)
                     have hji53w : (IntKind.i64.wrap ((wrap64 ((rd [(wrap64 (Int.tdiv (rd l1 x67_3) a0_0)), (wrap64 (Int.tdiv (rd l1 x67_3) a0_0)), (wrap64 ((wrap64 (Int.tdiv (rd l1 x67_3) a0_0)) + 1)), (wrap64 ((wrap64 (Int.tdiv (rd l1 x67_3) a0_0)) + 1))] x96_4) * (wrap64 (a0_0 + 1)))) + (rd [(Int.tmod (rd l1 x67_3) a0_0), (wrap64 ((Int.tmod (rd l1 x67_3) a0_0) + 1)), (wrap64 ((Int.tmod (rd l1 x67_3) a0_0) + 1)), (Int.tmod (rd l1 x67_3) a0_0)] x96_4))) = ji53 := (i64_w _).trans hji53
                     by_cases c54 : 0 ≤ (ji53)
                     ·rw [if_pos c54] at H
                      have c54b0 : decide (0 ≤ (ji53)) = true := decide_eq_true c54
                      clear c54
                      by_cases c55 : (ji53) < (x304002_5.length : Int)
                      ·rw [if_pos c55] at H
                       have c55b0 : decide ((ji53) < (x304002_5.length : Int)) = true := decide_eq_true c55
                       clear c55
                       by_cases c56 : (rd x304002_5 (ji53)) = a2
                       ·rw [if_pos c56] at H
                        have c56b0 : ((rd x304002_5 (ji53)) == a2) = true := beq_iff_eq.mpr c56
                        have c56b1 : ((rd x304002_5 (ji53)) != a2) = false := bne_eq_false_iff_eq.mpr c56
                        clear c56
                        have H' := Aside0.mk H
                        clear H
                        have hnb57 := NB303_295.out
                        have hnc57 := NB295_303.out
                        have hnb58 := NB303_296.out
                        have hnc58 := NB296_303.out
                        have hnb59 := NB303_305.out
                        have hnc59 := NB305_303.out
                        obtain ⟨hcz60_0, hcz60_1, hcz60_2, hfz60_0, hfz60_1, hfz60_2⟩ := cs3_ BK303.out
                        have hnb61 := NB305_295.out
                        have hnc61 := NB295_305.out
                        have hnb62 := NB305_296.out
                        have hnc62 := NB296_305.out
                        obtain ⟨hcz63_0, hcz63_1, hfz63_0, hfz63_1⟩ := cs2_ BK305.out
                        have hnb64 := NB295_296.out
                        have hnc64 := NB296_295.out
                        obtain ⟨hcz65_0, hcz65_1, hcz65_2, hfz65_0, hfz65_1, hfz65_2⟩ := cs3_ BK295.out
                        obtain ⟨Ao66, co66, eo66⟩ := Kd.R_slice HO_304002.out
                        subst eo66
                        have p306 : 0 ≤ ((ji53) : Int) := of_decide_eq_true tW_
                        have q306 : (ji53) < (x304002_5.length : Int) := of_decide_eq_true tW_
                        obtain ⟨ad306, e306, hx306_0⟩ := Kd.at_int (Kd.R_reads' HO_304002.out).2.2 (ji53) p306 q306
                        cases e306
                        replace p306 := eq_true p306
                        replace q306 := eq_true q306
                        go_wp2
                        go_roundg k5
                        case measure => have := HJ6.out; have := HK2.out; have := HK3.out; have := HK4.out; have := HK5.out; omega
                        case rel => exact ⟨(x15_5), (wrap64 (x96_4 + 1)), (x297000_5), (x297001_5), (x304000_5), (x304001_5), (x304002_5), (.slice (some ad306) x304002_5.length co66), tS_, tS_, H', ⟨by have := HJ6.out; have := HK2.out; have := HK3.out; have := HK4.out; have := HK5.out; omega⟩, ⟨dR_ HO_304002⟩, ⟨dB_ BK295⟩, ⟨dB_ BK296⟩, ⟨dB_ BK303⟩, ⟨dL4_ HB GE295 GE296 GE303 GE305⟩⟩
                       ·rw [if_neg c56] at H
                        have c56b0 : ((rd x304002_5 (ji53)) == a2) = false := beq_eq_false_iff_ne.mpr c56
                        have c56b1 : ((rd x304002_5 (ji53)) != a2) = true := bne_iff_ne.mpr c56
                        replace H := Option.bind_eq_some_iff.mp H
                        obtain ⟨⟨t307, t308, t309, t312, t315, t316⟩, A670, H⟩ := H
                        replace H : (if t316 = 0 then (land_Level.l3 k5 a2 l3 (wrap64 (x15_5 + t315)) l1 (l1.length : Int) x67_3 x96_4 a0_0 a0_1 l0_2 t307 t308 t309 (rd [(Int.tmod (rd l1 x67_3) a0_0), (wrap64 ((Int.tmod (rd l1 x67_3) a0_0) + 1)), (wrap64 ((Int.tmod (rd l1 x67_3) a0_0) + 1)), (Int.tmod (rd l1 x67_3) a0_0)] x96_4) (rd [(wrap64 (Int.tdiv (rd l1 x67_3) a0_0)), (wrap64 (Int.tdiv (rd l1 x67_3) a0_0)), (wrap64 ((wrap64 (Int.tdiv (rd l1 x67_3) a0_0)) + 1)), (wrap64 ((wrap64 (Int.tdiv (rd l1 x67_3) a0_0)) + 1))] x96_4) (Int.tmod (rd l1 x67_3) a0_0) (wrap64 (Int.tdiv (rd l1 x67_3) a0_0)) (wrap64 ((Int.tmod (rd l1 x67_3) a0_0) + 1)) (wrap64 (Int.tdiv (rd l1 x67_3) a0_0)) (wrap64 ((Int.tmod (rd l1 x67_3) a0_0) + 1)) (wrap64 ((wrap64 (Int.tdiv (rd l1 x67_3) a0_0)) + 1)) (Int.tmod (rd l1 x67_3) a0_0) (wrap64 ((wrap64 (Int.tdiv (rd l1 x67_3) a0_0)) + 1))) else (some (0, 0, ([] : List Int), 0, t316))) = some (r1, r2, r3, r4, r5) := H
                        have A67 := Aside0.mk A670
                        clear A670
                        by_cases c68 : t316 = 0
                        ·rw [if_pos c68] at H
                         have c68b0 : (t316 == 0) = true := beq_iff_eq.mpr c68
                         have c68b1 : (t316 != 0) = false := bne_eq_false_iff_eq.mpr c68
                         clear c68
                         have H' := Aside0.mk H
                         clear H
                         have hnb69 := NB303_295.out
                         have hnc69 := NB295_303.out
                         have hnb70 := NB303_296.out
                         have hnc70 := NB296_303.out
                         have hnb71 := NB303_305.out
                         have hnc71 := NB305_303.out
                         obtain ⟨hcz72_0, hcz72_1, hcz72_2, hfz72_0, hfz72_1, hfz72_2⟩ := cs3_ BK303.out
                         have hnb73 := NB305_295.out
                         have hnc73 := NB295_305.out
                         have hnb74 := NB305_296.out
                         have hnc74 := NB296_305.out
                         obtain ⟨hcz75_0, hcz75_1, hfz75_0, hfz75_1⟩ := cs2_ BK305.out
                         have hnb76 := NB295_296.out
                         have hnc76 := NB296_295.out
                         obtain ⟨hcz77_0, hcz77_1, hcz77_2, hfz77_0, hfz77_1, hfz77_2⟩ := cs3_ BK295.out
                         obtain ⟨Ao78, co78, eo78⟩ := Kd.R_slice HO_304002.out
                         subst eo78
                         have p306 : 0 ≤ ((ji53) : Int) := of_decide_eq_true tW_
                         have q306 : (ji53) < (x304002_5.length : Int) := of_decide_eq_true tW_
                         obtain ⟨ad306, e306, hx306_0⟩ := Kd.at_int (Kd.R_reads' HO_304002.out).2.2 (ji53) p306 q306
                         cases e306
                         replace p306 := eq_true p306
                         replace q306 := eq_true q306
                         go_wp2_with (first | ((with_reducible refine gate_callee (f := 19) rfl ?_); refine goesL_ (some 125) rfl rfl Try.func19 (by kernel_rfl) rfl #[.agg #[.int .i64 x304000_5, .int .i64 x304001_5, .slice (some ad306) x304002_5.length co78], .int .i64 (rd [(Int.tmod (rd l1 x67_3) a0_0), (wrap64 ((Int.tmod (rd l1 x67_3) a0_0) + 1)), (wrap64 ((Int.tmod (rd l1 x67_3) a0_0) + 1)), (Int.tmod (rd l1 x67_3) a0_0)] x96_4), .int .i64 (rd [(wrap64 (Int.tdiv (rd l1 x67_3) a0_0)), (wrap64 (Int.tdiv (rd l1 x67_3) a0_0)), (wrap64 ((wrap64 (Int.tdiv (rd l1 x67_3) a0_0)) + 1)), (wrap64 ((wrap64 (Int.tdiv (rd l1 x67_3) a0_0)) + 1))] x96_4), .bool (decide ((rd x304002_5 (ji53)) < a2)), .slice A3 l3.length c3] rfl (by (try simp only [List.map_toArray, List.map_cons, List.map_nil]); first | done | (simp only [hji53]; rfl) | rfl | (simp only [List.length_drop, List.length_take]; rfl)) ?_; (with_reducible refine (land_Shift.calls k5 x304000_5 x304001_5 _ _ x304002_5 (rd [(Int.tmod (rd l1 x67_3) a0_0), (wrap64 ((Int.tmod (rd l1 x67_3) a0_0) + 1)), (wrap64 ((Int.tmod (rd l1 x67_3) a0_0) + 1)), (Int.tmod (rd l1 x67_3) a0_0)] x96_4) (rd [(wrap64 (Int.tdiv (rd l1 x67_3) a0_0)), (wrap64 (Int.tdiv (rd l1 x67_3) a0_0)), (wrap64 ((wrap64 (Int.tdiv (rd l1 x67_3) a0_0)) + 1)), (wrap64 ((wrap64 (Int.tdiv (rd l1 x67_3) a0_0)) + 1))] x96_4) (decide ((rd x304002_5 (ji53)) < a2)) _ _ l3 t307 t308 t309 t312 t315 t316 _ ?side1 ?side2 ?side3 ?side4 A67.out).mono ?_); (case side1 => repeat (first | exact (Kd.R_reads' HO_304002.out).2.2 | (with_reducible refine Kd.C_alloc ?_ _) | (with_reducible refine Kd.C_drewN ?_ _) | (with_reducible refine Kd.C_drew ?_))); (case side2 => exact (Kd.R_reads' HO_304002.out).2.1); (case side3 => exact dC_ HR3 HB); (case side4 => exact HC3.out); rintro e w79 ⟨v310, v313, rfl, ho0, ho1, hb⟩; refine ⟨_, rfl, ?_⟩; have HO311 := Aside0.mk (Kd.R_lower (Kd.R_new' ho0 (Kd.R_lt (dR_ HO_304002))) (below_size (dL4_ HB GE295 GE296 GE303 GE305))); replace HO_304002 := Aside0.mk (Kd.R_elder' (dR_ HO_304002) (Kd.R_base ho0) hb); have HO314 := Aside0.mk (Kd.R_lower ho1 (below_size (dL4_ HB GE295 GE296 GE303 GE305))); replace BK295 := Aside0.mk (blk_below (g := gb295) (o := .cells #[.int .i64 a0_0, .int .i64 a0_1, .slice A0_2 l0_2.length c0_2] 24 (0, 0)) (dB_ BK295) hb); replace BK296 := Aside0.mk (blk_below (g := gb296) (o := .cells #[.int .i64 x297000_5, .int .i64 x297001_5, .slice none 0 0] 24 (0, 0)) (dB_ BK296) hb); replace BK303 := Aside0.mk (blk_below (g := gb303) (o := .cells #[.int .i64 x304000_5, .int .i64 x304001_5, .slice (some ad306) x304002_5.length co78] 24 (0, 0)) (dB_ BK303) hb); replace BK305 := Aside0.mk (blk_below (g := gb305) (o := .cells #[.int .i64 (rd [(Int.tmod (rd l1 x67_3) a0_0), (wrap64 ((Int.tmod (rd l1 x67_3) a0_0) + 1)), (wrap64 ((Int.tmod (rd l1 x67_3) a0_0) + 1)), (Int.tmod (rd l1 x67_3) a0_0)] x96_4), .int .i64 (rd [(wrap64 (Int.tdiv (rd l1 x67_3) a0_0)), (wrap64 (Int.tdiv (rd l1 x67_3) a0_0)), (wrap64 ((wrap64 (Int.tdiv (rd l1 x67_3) a0_0)) + 1)), (wrap64 ((wrap64 (Int.tdiv (rd l1 x67_3) a0_0)) + 1))] x96_4)] 69 (0, 0)) (dB_ BK305) hb); replace HB := Aside0.mk (below_step (dL4_ HB GE295 GE296 GE303 GE305) hb)) | ((with_reducible refine gate_dst (N := 23) rfl ?_); (try (refine gate_guard (by rfl) ?_; dsimp only)); refine box_event ?hg (N := 23) ?hd (cs := #[.int .i64 0, .int .i64 0, .slice none 0 0]) (t := 24) ?hr ?_; (case hd => rfl); (case hg => rfl); (case hr => first | (go_simp; done) | (go_simp; rfl)); intro gb317 hg w80 hbox hb; replace HO_304002 := Aside0.mk (Kd.R_below (dR_ HO_304002) hb); replace HO311 := Aside0.mk (Kd.R_below (dR_ HO311) hb); replace HO314 := Aside0.mk (Kd.R_below (dR_ HO314) hb); have BK317 := Aside0.mk (hbox); have GW317 := Aside0.mk ((dS_ hg (dL4_ HB GE295 GE296 GE303 GE305) : w.heap.size ≤ gb317)); have GE317 := Aside0.mk ((dS_ hg (dL4_ HB GE295 GE296 GE303 GE305) : w.heap.size ≤ gb317)); replace HB := Aside0.mk (below_step (dL4_ HB GE295 GE296 GE303 GE305) hb); have NB295_317 := Aside0.mk ((by rw [hg]; exact Nat.ne_of_lt (blk_lt (dB_ BK295)) : gb295 ≠ gb317)); have NB317_295 := Aside0.mk ((by rw [hg]; exact Nat.ne_of_gt (blk_lt (dB_ BK295)) : gb317 ≠ gb295)); replace BK295 := Aside0.mk (blk_below (g := gb295) (o := .cells #[.int .i64 a0_0, .int .i64 a0_1, .slice A0_2 l0_2.length c0_2] 24 (0, 0)) (dB_ BK295) hb); have NB296_317 := Aside0.mk ((by rw [hg]; exact Nat.ne_of_lt (blk_lt (dB_ BK296)) : gb296 ≠ gb317)); have NB317_296 := Aside0.mk ((by rw [hg]; exact Nat.ne_of_gt (blk_lt (dB_ BK296)) : gb317 ≠ gb296)); replace BK296 := Aside0.mk (blk_below (g := gb296) (o := .cells #[.int .i64 x297000_5, .int .i64 x297001_5, .slice none 0 0] 24 (0, 0)) (dB_ BK296) hb); have NB303_317 := Aside0.mk ((by rw [hg]; exact Nat.ne_of_lt (blk_lt (dB_ BK303)) : gb303 ≠ gb317)); have NB317_303 := Aside0.mk ((by rw [hg]; exact Nat.ne_of_gt (blk_lt (dB_ BK303)) : gb317 ≠ gb303)); replace BK303 := Aside0.mk (blk_below (g := gb303) (o := .cells #[.int .i64 x304000_5, .int .i64 x304001_5, .slice (some ad306) x304002_5.length co78] 24 (0, 0)) (dB_ BK303) hb); have NB305_317 := Aside0.mk ((by rw [hg]; exact Nat.ne_of_lt (blk_lt (g := gb305) (o := .cells #[.int .i64 (rd [(Int.tmod (rd l1 x67_3) a0_0), (wrap64 ((Int.tmod (rd l1 x67_3) a0_0) + 1)), (wrap64 ((Int.tmod (rd l1 x67_3) a0_0) + 1)), (Int.tmod (rd l1 x67_3) a0_0)] x96_4), .int .i64 (rd [(wrap64 (Int.tdiv (rd l1 x67_3) a0_0)), (wrap64 (Int.tdiv (rd l1 x67_3) a0_0)), (wrap64 ((wrap64 (Int.tdiv (rd l1 x67_3) a0_0)) + 1)), (wrap64 ((wrap64 (Int.tdiv (rd l1 x67_3) a0_0)) + 1))] x96_4)] 69 (0, 0)) (dB_ BK305)) : gb305 ≠ gb317)); have NB317_305 := Aside0.mk ((by rw [hg]; exact Nat.ne_of_gt (blk_lt (g := gb305) (o := .cells #[.int .i64 (rd [(Int.tmod (rd l1 x67_3) a0_0), (wrap64 ((Int.tmod (rd l1 x67_3) a0_0) + 1)), (wrap64 ((Int.tmod (rd l1 x67_3) a0_0) + 1)), (Int.tmod (rd l1 x67_3) a0_0)] x96_4), .int .i64 (rd [(wrap64 (Int.tdiv (rd l1 x67_3) a0_0)), (wrap64 (Int.tdiv (rd l1 x67_3) a0_0)), (wrap64 ((wrap64 (Int.tdiv (rd l1 x67_3) a0_0)) + 1)), (wrap64 ((wrap64 (Int.tdiv (rd l1 x67_3) a0_0)) + 1))] x96_4)] 69 (0, 0)) (dB_ BK305)) : gb317 ≠ gb305)); replace BK305 := Aside0.mk (blk_below (g := gb305) (o := .cells #[.int .i64 (rd [(Int.tmod (rd l1 x67_3) a0_0), (wrap64 ((Int.tmod (rd l1 x67_3) a0_0) + 1)), (wrap64 ((Int.tmod (rd l1 x67_3) a0_0) + 1)), (Int.tmod (rd l1 x67_3) a0_0)] x96_4), .int .i64 (rd [(wrap64 (Int.tdiv (rd l1 x67_3) a0_0)), (wrap64 (Int.tdiv (rd l1 x67_3) a0_0)), (wrap64 ((wrap64 (Int.tdiv (rd l1 x67_3) a0_0)) + 1)), (wrap64 ((wrap64 (Int.tdiv (rd l1 x67_3) a0_0)) + 1))] x96_4)] 69 (0, 0)) (dB_ BK305) hb); clear hb hbox hg; have hnb81 := NB317_295.out; have hnc81 := NB295_317.out; have hnb82 := NB317_296.out; have hnc82 := NB296_317.out; have hnb83 := NB317_303.out; have hnc83 := NB303_317.out; have hnb84 := NB317_305.out; have hnc84 := NB305_317.out; obtain ⟨hcz85_0, hcz85_1, hcz85_2, hfz85_0, hfz85_1, hfz85_2⟩ := cs3_ BK317.out; obtain ⟨Ao86, co86, eo86⟩ := Kd.R_slice HO311.out; subst eo86; obtain ⟨hcz87_0, hcz87_1, hcz87_2, hfz87_0, hfz87_1, hfz87_2⟩ := cs3_ BK303.out))
                         go_roundg k5
                         case measure => have := HJ6.out; have := HK2.out; have := HK3.out; have := HK4.out; have := HK5.out; omega
                         case rel => exact ⟨(wrap64 (x15_5 + t315)), (x297000_5), (x297001_5), (t307), (t308), (t309), (.slice Ao86 t309.length co86), tS_, H', ⟨by have := HJ6.out; have := HK2.out; have := HK3.out; have := HK4.out; have := HK5.out; omega⟩, ⟨by (with_reducible repeat (first | apply Kd.R_alloc | apply Kd.R_drewN | apply Kd.R_drew)); exact Kd.R_mono (Kd.R_far (p := ⟨gb303, 2, none⟩) (Kd.R_far (p := ⟨gb303, 1, none⟩) (Kd.R_far (p := ⟨gb303, 0, none⟩) (Kd.R_far (p := ⟨gb317, 2, none⟩) (Kd.R_far (p := ⟨gb317, 1, none⟩) (Kd.R_far (p := ⟨gb317, 0, none⟩) (Kd.R_types (Kd.R_types HO311.out BK317.out (by decide)) BK303.out (by decide)) (fun _ hk => hk.1.2) (.int .i64 t307)) (fun _ hk => hk.1.2) (.int .i64 t308)) (fun _ hk => hk.1.2) (.slice Ao86 t309.length co86)) (fun _ hk => hk.2) (.int .i64 t307)) (fun _ hk => hk.2) (.int .i64 t308)) (fun _ hk => hk.2) (.slice Ao86 t309.length co86)) (fun _ hk => trivial)⟩, ⟨by (with_reducible repeat (first | refine blk_drewN ?_ _ | refine blk_drew ?_ | refine blk_alloc ?_ _)); refine blk_far ?_ NB295_303.out _; (with_reducible repeat (first | refine blk_drewN ?_ _ | refine blk_drew ?_ | refine blk_alloc ?_ _)); refine blk_far ?_ NB295_303.out _; (with_reducible repeat (first | refine blk_drewN ?_ _ | refine blk_drew ?_ | refine blk_alloc ?_ _)); refine blk_far ?_ NB295_303.out _; (with_reducible repeat (first | refine blk_drewN ?_ _ | refine blk_drew ?_ | refine blk_alloc ?_ _)); refine blk_far ?_ NB295_317.out _; (with_reducible repeat (first | refine blk_drewN ?_ _ | refine blk_drew ?_ | refine blk_alloc ?_ _)); refine blk_far ?_ NB295_317.out _; (with_reducible repeat (first | refine blk_drewN ?_ _ | refine blk_drew ?_ | refine blk_alloc ?_ _)); refine blk_far ?_ NB295_317.out _; (with_reducible repeat (first | refine blk_drewN ?_ _ | refine blk_drew ?_ | refine blk_alloc ?_ _)); exact BK295.out⟩, ⟨by (with_reducible repeat (first | refine blk_drewN ?_ _ | refine blk_drew ?_ | refine blk_alloc ?_ _)); refine blk_far ?_ NB296_303.out _; (with_reducible repeat (first | refine blk_drewN ?_ _ | refine blk_drew ?_ | refine blk_alloc ?_ _)); refine blk_far ?_ NB296_303.out _; (with_reducible repeat (first | refine blk_drewN ?_ _ | refine blk_drew ?_ | refine blk_alloc ?_ _)); refine blk_far ?_ NB296_303.out _; (with_reducible repeat (first | refine blk_drewN ?_ _ | refine blk_drew ?_ | refine blk_alloc ?_ _)); refine blk_far ?_ NB296_317.out _; (with_reducible repeat (first | refine blk_drewN ?_ _ | refine blk_drew ?_ | refine blk_alloc ?_ _)); refine blk_far ?_ NB296_317.out _; (with_reducible repeat (first | refine blk_drewN ?_ _ | refine blk_drew ?_ | refine blk_alloc ?_ _)); refine blk_far ?_ NB296_317.out _; (with_reducible repeat (first | refine blk_drewN ?_ _ | refine blk_drew ?_ | refine blk_alloc ?_ _)); exact BK296.out⟩, ⟨by (with_reducible repeat (first | refine blk_drewN ?_ _ | refine blk_drew ?_ | refine blk_alloc ?_ _)); refine blk_put (cs := #[.int .i64 t307, .int .i64 t308, .slice (some ad306) x304002_5.length co78]) ?_ 2 _ rfl; (with_reducible repeat (first | refine blk_drewN ?_ _ | refine blk_drew ?_ | refine blk_alloc ?_ _)); refine blk_put (cs := #[.int .i64 t307, .int .i64 x304001_5, .slice (some ad306) x304002_5.length co78]) ?_ 1 _ rfl; (with_reducible repeat (first | refine blk_drewN ?_ _ | refine blk_drew ?_ | refine blk_alloc ?_ _)); refine blk_put (cs := #[.int .i64 x304000_5, .int .i64 x304001_5, .slice (some ad306) x304002_5.length co78]) ?_ 0 _ rfl; (with_reducible repeat (first | refine blk_drewN ?_ _ | refine blk_drew ?_ | refine blk_alloc ?_ _)); refine blk_far ?_ NB303_317.out _; (with_reducible repeat (first | refine blk_drewN ?_ _ | refine blk_drew ?_ | refine blk_alloc ?_ _)); refine blk_far ?_ NB303_317.out _; (with_reducible repeat (first | refine blk_drewN ?_ _ | refine blk_drew ?_ | refine blk_alloc ?_ _)); refine blk_far ?_ NB303_317.out _; (with_reducible repeat (first | refine blk_drewN ?_ _ | refine blk_drew ?_ | refine blk_alloc ?_ _)); exact BK303.out⟩, ⟨by (with_reducible repeat (first | refine blk_drewN ?_ _ | refine blk_drew ?_ | refine blk_alloc ?_ _)); refine blk_far ?_ NB305_303.out _; (with_reducible repeat (first | refine blk_drewN ?_ _ | refine blk_drew ?_ | refine blk_alloc ?_ _)); refine blk_far ?_ NB305_303.out _; (with_reducible repeat (first | refine blk_drewN ?_ _ | refine blk_drew ?_ | refine blk_alloc ?_ _)); refine blk_far ?_ NB305_303.out _; (with_reducible repeat (first | refine blk_drewN ?_ _ | refine blk_drew ?_ | refine blk_alloc ?_ _)); refine blk_far ?_ NB305_317.out _; (with_reducible repeat (first | refine blk_drewN ?_ _ | refine blk_drew ?_ | refine blk_alloc ?_ _)); refine blk_far ?_ NB305_317.out _; (with_reducible repeat (first | refine blk_drewN ?_ _ | refine blk_drew ?_ | refine blk_alloc ?_ _)); refine blk_far ?_ NB305_317.out _; (with_reducible repeat (first | refine blk_drewN ?_ _ | refine blk_drew ?_ | refine blk_alloc ?_ _)); exact BK305.out⟩, ⟨by repeat (first | (with_reducible first | exact HB.out | apply below_alloc | apply pw_below_drewN | apply below_drew1 | refine below_set ?_ GE295.out | refine below_set ?_ GE296.out | refine below_set ?_ GE303.out | refine below_set ?_ GE305.out | refine below_set ?_ GE317.out) | exact HB.out)⟩⟩
                        ·rw [if_neg c68] at H
                         have c68b0 : (t316 == 0) = false := beq_eq_false_iff_ne.mpr c68
                         have c68b1 : (t316 != 0) = true := bne_iff_ne.mpr c68
                         simp only [Option.some.injEq, Prod.mk.injEq] at H
                         obtain ⟨rfl, rfl, rfl, rfl, rfl⟩ := H
                         have hnb88 := NB303_295.out
                         have hnc88 := NB295_303.out
                         have hnb89 := NB303_296.out
                         have hnc89 := NB296_303.out
                         have hnb90 := NB303_305.out
                         have hnc90 := NB305_303.out
                         obtain ⟨hcz91_0, hcz91_1, hcz91_2, hfz91_0, hfz91_1, hfz91_2⟩ := cs3_ BK303.out
                         have hnb92 := NB305_295.out
                         have hnc92 := NB295_305.out
                         have hnb93 := NB305_296.out
                         have hnc93 := NB296_305.out
                         obtain ⟨hcz94_0, hcz94_1, hfz94_0, hfz94_1⟩ := cs2_ BK305.out
                         have hnb95 := NB295_296.out
                         have hnc95 := NB296_295.out
                         obtain ⟨hcz96_0, hcz96_1, hcz96_2, hfz96_0, hfz96_1, hfz96_2⟩ := cs3_ BK295.out
                         obtain ⟨Ao97, co97, eo97⟩ := Kd.R_slice HO_304002.out
                         subst eo97
                         have p306 : 0 ≤ ((ji53) : Int) := of_decide_eq_true tW_
                         have q306 : (ji53) < (x304002_5.length : Int) := of_decide_eq_true tW_
                         obtain ⟨ad306, e306, hx306_0⟩ := Kd.at_int (Kd.R_reads' HO_304002.out).2.2 (ji53) p306 q306
                         cases e306
                         replace p306 := eq_true p306
                         replace q306 := eq_true q306
                         go_wp2_with (first | ((with_reducible refine gate_callee (f := 19) rfl ?_); refine goesL_ (some 125) rfl rfl Try.func19 (by kernel_rfl) rfl #[.agg #[.int .i64 x304000_5, .int .i64 x304001_5, .slice (some ad306) x304002_5.length co97], .int .i64 (rd [(Int.tmod (rd l1 x67_3) a0_0), (wrap64 ((Int.tmod (rd l1 x67_3) a0_0) + 1)), (wrap64 ((Int.tmod (rd l1 x67_3) a0_0) + 1)), (Int.tmod (rd l1 x67_3) a0_0)] x96_4), .int .i64 (rd [(wrap64 (Int.tdiv (rd l1 x67_3) a0_0)), (wrap64 (Int.tdiv (rd l1 x67_3) a0_0)), (wrap64 ((wrap64 (Int.tdiv (rd l1 x67_3) a0_0)) + 1)), (wrap64 ((wrap64 (Int.tdiv (rd l1 x67_3) a0_0)) + 1))] x96_4), .bool (decide ((rd x304002_5 (ji53)) < a2)), .slice A3 l3.length c3] rfl (by (try simp only [List.map_toArray, List.map_cons, List.map_nil]); first | done | (simp only [hji53]; rfl) | rfl | (simp only [List.length_drop, List.length_take]; rfl)) ?_; (with_reducible refine (land_Shift.calls k5 x304000_5 x304001_5 _ _ x304002_5 (rd [(Int.tmod (rd l1 x67_3) a0_0), (wrap64 ((Int.tmod (rd l1 x67_3) a0_0) + 1)), (wrap64 ((Int.tmod (rd l1 x67_3) a0_0) + 1)), (Int.tmod (rd l1 x67_3) a0_0)] x96_4) (rd [(wrap64 (Int.tdiv (rd l1 x67_3) a0_0)), (wrap64 (Int.tdiv (rd l1 x67_3) a0_0)), (wrap64 ((wrap64 (Int.tdiv (rd l1 x67_3) a0_0)) + 1)), (wrap64 ((wrap64 (Int.tdiv (rd l1 x67_3) a0_0)) + 1))] x96_4) (decide ((rd x304002_5 (ji53)) < a2)) _ _ l3 t307 t308 t309 t312 t315 t316 _ ?side1 ?side2 ?side3 ?side4 A67.out).mono ?_); (case side1 => repeat (first | exact (Kd.R_reads' HO_304002.out).2.2 | (with_reducible refine Kd.C_alloc ?_ _) | (with_reducible refine Kd.C_drewN ?_ _) | (with_reducible refine Kd.C_drew ?_))); (case side2 => exact (Kd.R_reads' HO_304002.out).2.1); (case side3 => exact dC_ HR3 HB); (case side4 => exact HC3.out); rintro e w98 ⟨v310, v313, rfl, ho0, ho1, hb⟩; refine ⟨_, rfl, ?_⟩; have HO311 := Aside0.mk (Kd.R_lower (Kd.R_new' ho0 (Kd.R_lt (dR_ HO_304002))) (below_size (dL4_ HB GE295 GE296 GE303 GE305))); replace HO_304002 := Aside0.mk (Kd.R_elder' (dR_ HO_304002) (Kd.R_base ho0) hb); have HO314 := Aside0.mk (Kd.R_lower ho1 (below_size (dL4_ HB GE295 GE296 GE303 GE305))); replace BK295 := Aside0.mk (blk_below (g := gb295) (o := .cells #[.int .i64 a0_0, .int .i64 a0_1, .slice A0_2 l0_2.length c0_2] 24 (0, 0)) (dB_ BK295) hb); replace BK296 := Aside0.mk (blk_below (g := gb296) (o := .cells #[.int .i64 x297000_5, .int .i64 x297001_5, .slice none 0 0] 24 (0, 0)) (dB_ BK296) hb); replace BK303 := Aside0.mk (blk_below (g := gb303) (o := .cells #[.int .i64 x304000_5, .int .i64 x304001_5, .slice (some ad306) x304002_5.length co97] 24 (0, 0)) (dB_ BK303) hb); replace BK305 := Aside0.mk (blk_below (g := gb305) (o := .cells #[.int .i64 (rd [(Int.tmod (rd l1 x67_3) a0_0), (wrap64 ((Int.tmod (rd l1 x67_3) a0_0) + 1)), (wrap64 ((Int.tmod (rd l1 x67_3) a0_0) + 1)), (Int.tmod (rd l1 x67_3) a0_0)] x96_4), .int .i64 (rd [(wrap64 (Int.tdiv (rd l1 x67_3) a0_0)), (wrap64 (Int.tdiv (rd l1 x67_3) a0_0)), (wrap64 ((wrap64 (Int.tdiv (rd l1 x67_3) a0_0)) + 1)), (wrap64 ((wrap64 (Int.tdiv (rd l1 x67_3) a0_0)) + 1))] x96_4)] 69 (0, 0)) (dB_ BK305) hb); replace HB := Aside0.mk (below_step (dL4_ HB GE295 GE296 GE303 GE305) hb)) | ((with_reducible refine gate_dst (N := 23) rfl ?_); (try (refine gate_guard (by rfl) ?_; dsimp only)); refine box_event ?hg (N := 23) ?hd (cs := #[.int .i64 0, .int .i64 0, .slice none 0 0]) (t := 24) ?hr ?_; (case hd => rfl); (case hg => rfl); (case hr => first | (go_simp; done) | (go_simp; rfl)); intro gb317 hg w99 hbox hb; replace HO_304002 := Aside0.mk (Kd.R_below (dR_ HO_304002) hb); replace HO311 := Aside0.mk (Kd.R_below (dR_ HO311) hb); replace HO314 := Aside0.mk (Kd.R_below (dR_ HO314) hb); have BK317 := Aside0.mk (hbox); have GW317 := Aside0.mk ((dS_ hg (dL4_ HB GE295 GE296 GE303 GE305) : w.heap.size ≤ gb317)); have GE317 := Aside0.mk ((dS_ hg (dL4_ HB GE295 GE296 GE303 GE305) : w.heap.size ≤ gb317)); replace HB := Aside0.mk (below_step (dL4_ HB GE295 GE296 GE303 GE305) hb); have NB295_317 := Aside0.mk ((by rw [hg]; exact Nat.ne_of_lt (blk_lt (dB_ BK295)) : gb295 ≠ gb317)); have NB317_295 := Aside0.mk ((by rw [hg]; exact Nat.ne_of_gt (blk_lt (dB_ BK295)) : gb317 ≠ gb295)); replace BK295 := Aside0.mk (blk_below (g := gb295) (o := .cells #[.int .i64 a0_0, .int .i64 a0_1, .slice A0_2 l0_2.length c0_2] 24 (0, 0)) (dB_ BK295) hb); have NB296_317 := Aside0.mk ((by rw [hg]; exact Nat.ne_of_lt (blk_lt (dB_ BK296)) : gb296 ≠ gb317)); have NB317_296 := Aside0.mk ((by rw [hg]; exact Nat.ne_of_gt (blk_lt (dB_ BK296)) : gb317 ≠ gb296)); replace BK296 := Aside0.mk (blk_below (g := gb296) (o := .cells #[.int .i64 x297000_5, .int .i64 x297001_5, .slice none 0 0] 24 (0, 0)) (dB_ BK296) hb); have NB303_317 := Aside0.mk ((by rw [hg]; exact Nat.ne_of_lt (blk_lt (dB_ BK303)) : gb303 ≠ gb317)); have NB317_303 := Aside0.mk ((by rw [hg]; exact Nat.ne_of_gt (blk_lt (dB_ BK303)) : gb317 ≠ gb303)); replace BK303 := Aside0.mk (blk_below (g := gb303) (o := .cells #[.int .i64 x304000_5, .int .i64 x304001_5, .slice (some ad306) x304002_5.length co97] 24 (0, 0)) (dB_ BK303) hb); have NB305_317 := Aside0.mk ((by rw [hg]; exact Nat.ne_of_lt (blk_lt (g := gb305) (o := .cells #[.int .i64 (rd [(Int.tmod (rd l1 x67_3) a0_0), (wrap64 ((Int.tmod (rd l1 x67_3) a0_0) + 1)), (wrap64 ((Int.tmod (rd l1 x67_3) a0_0) + 1)), (Int.tmod (rd l1 x67_3) a0_0)] x96_4), .int .i64 (rd [(wrap64 (Int.tdiv (rd l1 x67_3) a0_0)), (wrap64 (Int.tdiv (rd l1 x67_3) a0_0)), (wrap64 ((wrap64 (Int.tdiv (rd l1 x67_3) a0_0)) + 1)), (wrap64 ((wrap64 (Int.tdiv (rd l1 x67_3) a0_0)) + 1))] x96_4)] 69 (0, 0)) (dB_ BK305)) : gb305 ≠ gb317)); have NB317_305 := Aside0.mk ((by rw [hg]; exact Nat.ne_of_gt (blk_lt (g := gb305) (o := .cells #[.int .i64 (rd [(Int.tmod (rd l1 x67_3) a0_0), (wrap64 ((Int.tmod (rd l1 x67_3) a0_0) + 1)), (wrap64 ((Int.tmod (rd l1 x67_3) a0_0) + 1)), (Int.tmod (rd l1 x67_3) a0_0)] x96_4), .int .i64 (rd [(wrap64 (Int.tdiv (rd l1 x67_3) a0_0)), (wrap64 (Int.tdiv (rd l1 x67_3) a0_0)), (wrap64 ((wrap64 (Int.tdiv (rd l1 x67_3) a0_0)) + 1)), (wrap64 ((wrap64 (Int.tdiv (rd l1 x67_3) a0_0)) + 1))] x96_4)] 69 (0, 0)) (dB_ BK305)) : gb317 ≠ gb305)); replace BK305 := Aside0.mk (blk_below (g := gb305) (o := .cells #[.int .i64 (rd [(Int.tmod (rd l1 x67_3) a0_0), (wrap64 ((Int.tmod (rd l1 x67_3) a0_0) + 1)), (wrap64 ((Int.tmod (rd l1 x67_3) a0_0) + 1)), (Int.tmod (rd l1 x67_3) a0_0)] x96_4), .int .i64 (rd [(wrap64 (Int.tdiv (rd l1 x67_3) a0_0)), (wrap64 (Int.tdiv (rd l1 x67_3) a0_0)), (wrap64 ((wrap64 (Int.tdiv (rd l1 x67_3) a0_0)) + 1)), (wrap64 ((wrap64 (Int.tdiv (rd l1 x67_3) a0_0)) + 1))] x96_4)] 69 (0, 0)) (dB_ BK305) hb); clear hb hbox hg; have hnb100 := NB317_295.out; have hnc100 := NB295_317.out; have hnb101 := NB317_296.out; have hnc101 := NB296_317.out; have hnb102 := NB317_303.out; have hnc102 := NB303_317.out; have hnb103 := NB317_305.out; have hnc103 := NB305_317.out; obtain ⟨hcz104_0, hcz104_1, hcz104_2, hfz104_0, hfz104_1, hfz104_2⟩ := cs3_ BK317.out; obtain ⟨Ao105, co105, eo105⟩ := Kd.R_slice HO311.out; subst eo105; obtain ⟨hcz106_0, hcz106_1, hcz106_2, hfz106_0, hfz106_1, hfz106_2⟩ := cs3_ BK296.out))
                         refine bodyPost_ret (results_ctt rfl _ _ gb296 24 #[.int .i64 0, .int .i64 0, .slice none 0 0] (0, 0) _ rfl (by (with_reducible repeat (first | refine blk_drewN ?_ _ | refine blk_drew ?_ | refine blk_alloc ?_ _)); refine blk_put (cs := #[.int .i64 0, .int .i64 0, .slice none 0 0]) ?_ 2 _ rfl; (with_reducible repeat (first | refine blk_drewN ?_ _ | refine blk_drew ?_ | refine blk_alloc ?_ _)); refine blk_put (cs := #[.int .i64 0, .int .i64 x297001_5, .slice none 0 0]) ?_ 1 _ rfl; (with_reducible repeat (first | refine blk_drewN ?_ _ | refine blk_drew ?_ | refine blk_alloc ?_ _)); refine blk_put (cs := #[.int .i64 x297000_5, .int .i64 x297001_5, .slice none 0 0]) ?_ 0 _ rfl; (with_reducible repeat (first | refine blk_drewN ?_ _ | refine blk_drew ?_ | refine blk_alloc ?_ _)); refine blk_far ?_ NB296_317.out _; (with_reducible repeat (first | refine blk_drewN ?_ _ | refine blk_drew ?_ | refine blk_alloc ?_ _)); refine blk_far ?_ NB296_317.out _; (with_reducible repeat (first | refine blk_drewN ?_ _ | refine blk_drew ?_ | refine blk_alloc ?_ _)); refine blk_far ?_ NB296_317.out _; (with_reducible repeat (first | refine blk_drewN ?_ _ | refine blk_drew ?_ | refine blk_alloc ?_ _)); exact BK296.out) Try.underlying24 rfl (by kernel_rfl)) rfl ?_
                         exact ⟨_, by first | rfl | (simp [errW_none, errW_some] <;> rfl) | (simp only [← hji53]; first | rfl | (simp [errW_none, errW_some] <;> rfl)) | (simp [*, errW_none, errW_some] <;> rfl), by first | exact Kd.R_nil _ _ _ _ _ | exact Kd.N_nil _ _ _ _ _ | exact Kd.V_nil _ _ _ _ _ | exact Kd.Q_nil _ _ _ _ _ | exact Kd.S_nil _ _ _ _ _, by repeat (first | (with_reducible first | exact HB.out | apply below_alloc | apply pw_below_drewN | apply below_drew1 | refine below_set ?_ GE295.out | refine below_set ?_ GE296.out | refine below_set ?_ GE303.out | refine below_set ?_ GE305.out | refine below_set ?_ GE317.out) | exact HB.out)⟩
                      ·rw [if_neg c55] at H
                       exact absurd H (by simp)
                     ·rw [if_neg c54] at H
                      exact absurd H (by simp)
                  ·rw [if_neg c46] at H
                   exact absurd H (by simp)
                 ·rw [if_neg c45] at H
                  have c45b0 : decide (x96_4 < 4) = false := decide_eq_false c45
                  clear c45
                  have H' := Aside0.mk H
                  clear H
                  go_wp2
                  go_roundg k4
                  case measure => have := HJ6.out; have := HK2.out; have := HK3.out; have := HK4.out; omega
                  case rel => exact ⟨(x15_4), (wrap64 (x67_3 + 1)), (x297000_4), (x297001_4), (x304000_4), (x304001_4), (x304002_4), (u304002), tS_, tS_, H', ⟨by have := HJ6.out; have := HK2.out; have := HK3.out; have := HK4.out; omega⟩, ⟨dR_ HO_304002⟩, ⟨dB_ BK295⟩, ⟨dB_ BK296⟩, ⟨dB_ BK303⟩, ⟨dL3_ HB GE295 GE296 GE303⟩⟩
             ·rw [if_neg c42] at H
              exact absurd H (by simp)
            ·rw [if_neg c41] at H
             exact absurd H (by simp)
           ·rw [if_neg c40] at H
            have c40b0 : decide (x67_3 < (l1.length : Int)) = false := decide_eq_false c40
            clear c40
            simp only [Option.some.injEq, Prod.mk.injEq] at H
            obtain ⟨rfl, rfl, rfl, rfl, rfl⟩ := H
            have hnb107 := NB303_295.out
            have hnc107 := NB295_303.out
            have hnb108 := NB303_296.out
            have hnc108 := NB296_303.out
            obtain ⟨hcz109_0, hcz109_1, hcz109_2, hfz109_0, hfz109_1, hfz109_2⟩ := cs3_ BK303.out
            have hnb110 := NB296_295.out
            have hnc110 := NB295_296.out
            obtain ⟨hcz111_0, hcz111_1, hcz111_2, hfz111_0, hfz111_1, hfz111_2⟩ := cs3_ BK296.out
            obtain ⟨Ao112, co112, eo112⟩ := Kd.R_slice HO_304002.out
            subst eo112
            go_wp2
            refine bodyPost_ret (results_ctt rfl _ _ gb296 24 #[.int .i64 x304000_3, .int .i64 x304001_3, .slice Ao112 x304002_3.length co112] (0, 0) _ rfl (by (with_reducible repeat (first | refine blk_drewN ?_ _ | refine blk_drew ?_ | refine blk_alloc ?_ _)); refine blk_put (cs := #[.int .i64 x304000_3, .int .i64 x304001_3, .slice none 0 0]) ?_ 2 _ rfl; (with_reducible repeat (first | refine blk_drewN ?_ _ | refine blk_drew ?_ | refine blk_alloc ?_ _)); refine blk_put (cs := #[.int .i64 x304000_3, .int .i64 x297001_3, .slice none 0 0]) ?_ 1 _ rfl; (with_reducible repeat (first | refine blk_drewN ?_ _ | refine blk_drew ?_ | refine blk_alloc ?_ _)); refine blk_put (cs := #[.int .i64 x297000_3, .int .i64 x297001_3, .slice none 0 0]) ?_ 0 _ rfl; (with_reducible repeat (first | refine blk_drewN ?_ _ | refine blk_drew ?_ | refine blk_alloc ?_ _)); exact BK296.out) Try.underlying24 rfl (by kernel_rfl)) rfl ?_
            exact ⟨_, tE_, by (with_reducible repeat (first | apply Kd.R_alloc | apply Kd.R_drewN | apply Kd.R_drew)); exact Kd.R_mono (Kd.R_far (p := ⟨gb296, 2, none⟩) (Kd.R_far (p := ⟨gb296, 1, none⟩) (Kd.R_far (p := ⟨gb296, 0, none⟩) (Kd.R_types HO_304002.out BK296.out (by decide)) (fun _ hk => hk.2) (.int .i64 x304000_3)) (fun _ hk => hk.2) (.int .i64 x304001_3)) (fun _ hk => hk.2) (.slice Ao112 x304002_3.length co112)) (fun _ hk => trivial), dL3_ HB GE295 GE296 GE303⟩
        ·rw [if_neg c30] at H
         exact absurd H (by simp)
 ·rw [if_neg c6] at H
  have c6b0 : (t297 == 0) = false := beq_eq_false_iff_ne.mpr c6
  have c6b1 : (t297 != 0) = true := bne_iff_ne.mpr c6
  simp only [Option.some.injEq, Prod.mk.injEq] at H
  obtain ⟨rfl, rfl, rfl, rfl, rfl⟩ := H
  go_enter Try.func23, Try.ntmps23
  go_wp2_with (first | ((with_reducible refine gate_dst (N := 4) rfl ?_); (try (refine gate_guard (by rfl) ?_; dsimp only)); refine box_event ?hg (N := 4) ?hd (cs := #[.int .i64 a0_0, .int .i64 a0_1, .slice A0_2 l0_2.length c0_2]) (t := 24) ?hr ?_; (case hd => rfl); (case hg => rfl); (case hr => first | (go_simp; done) | (go_simp; rfl)); intro gb295 hg w113 hbox hb; have BK295 := Aside0.mk (hbox); have GW295 := Aside0.mk ((dS_ hg (dL_ HB) : w.heap.size ≤ gb295)); have GE295 := Aside0.mk ((dS_ hg (dL_ HB) : w.heap.size ≤ gb295)); replace HB := Aside0.mk (below_step (dL_ HB) hb); clear hb hbox hg) | ((with_reducible refine gate_dst (N := 8) rfl ?_); (try (refine gate_guard (by rfl) ?_; dsimp only)); refine box_event ?hg (N := 8) ?hd (cs := #[.int .i64 0, .int .i64 0, .slice none 0 0]) (t := 24) ?hr ?_; (case hd => rfl); (case hg => rfl); (case hr => first | (go_simp; done) | (go_simp; rfl)); intro gb296 hg w114 hbox hb; have BK296 := Aside0.mk (hbox); have GW296 := Aside0.mk ((dS_ hg (dL1_ HB GE295) : w.heap.size ≤ gb296)); have GE296 := Aside0.mk ((dS_ hg (dL1_ HB GE295) : w.heap.size ≤ gb296)); replace HB := Aside0.mk (below_step (dL1_ HB GE295) hb); have NB295_296 := Aside0.mk ((by rw [hg]; exact Nat.ne_of_lt (blk_lt (dB_ BK295)) : gb295 ≠ gb296)); have NB296_295 := Aside0.mk ((by rw [hg]; exact Nat.ne_of_gt (blk_lt (dB_ BK295)) : gb296 ≠ gb295)); replace BK295 := Aside0.mk (blk_below (g := gb295) (o := .cells #[.int .i64 a0_0, .int .i64 a0_1, .slice A0_2 l0_2.length c0_2] 24 (0, 0)) (dB_ BK295) hb); clear hb hbox hg; have hnb115 := NB295_296.out; have hnc115 := NB296_295.out; obtain ⟨hcz116_0, hcz116_1, hcz116_2, hfz116_0, hfz116_1, hfz116_2⟩ := cs3_ BK295.out) | ((with_reducible refine gate_callee (f := 17) rfl ?_); refine goesL_ (some 28) rfl rfl Try.func17 (by kernel_rfl) rfl #[.agg #[.int .i64 a0_0, .int .i64 a0_1, .slice A0_2 l0_2.length c0_2]] rfl tA_ ?_; (with_reducible refine (land_Validate.calls k a0_0 a0_1 _ _ l0_2 t297 _ ?side1 ?side2 A5.out).mono ?_); (case side1 => exact dC_ HR0_2 HB); (case side2 => exact HC0_2.out); rintro e w117 ⟨rfl, hb⟩; refine ⟨_, rfl, ?_⟩; replace BK295 := Aside0.mk (blk_below (g := gb295) (o := .cells #[.int .i64 a0_0, .int .i64 a0_1, .slice A0_2 l0_2.length c0_2] 24 (0, 0)) (dB_ BK295) hb); replace BK296 := Aside0.mk (blk_below (g := gb296) (o := .cells #[.int .i64 0, .int .i64 0, .slice none 0 0] 24 (0, 0)) (dB_ BK296) hb); replace HB := Aside0.mk (below_step (dL2_ HB GE295 GE296) hb); obtain ⟨hcz118_0, hcz118_1, hcz118_2, hfz118_0, hfz118_1, hfz118_2⟩ := cs3_ BK296.out))
  refine bodyPost_ret (results_ctt rfl _ _ gb296 24 #[.int .i64 0, .int .i64 0, .slice none 0 0] (0, 0) _ rfl (by (with_reducible repeat (first | refine blk_drewN ?_ _ | refine blk_drew ?_ | refine blk_alloc ?_ _)); refine blk_put (cs := #[.int .i64 0, .int .i64 0, .slice none 0 0]) ?_ 2 _ rfl; (with_reducible repeat (first | refine blk_drewN ?_ _ | refine blk_drew ?_ | refine blk_alloc ?_ _)); refine blk_put (cs := #[.int .i64 0, .int .i64 0, .slice none 0 0]) ?_ 1 _ rfl; (with_reducible repeat (first | refine blk_drewN ?_ _ | refine blk_drew ?_ | refine blk_alloc ?_ _)); refine blk_put (cs := #[.int .i64 0, .int .i64 0, .slice none 0 0]) ?_ 0 _ rfl; (with_reducible repeat (first | refine blk_drewN ?_ _ | refine blk_drew ?_ | refine blk_alloc ?_ _)); exact BK296.out) Try.underlying24 rfl (by kernel_rfl)) rfl ?_
  exact ⟨_, tE_, by first | exact Kd.R_nil _ _ _ _ _ | exact Kd.N_nil _ _ _ _ _ | exact Kd.V_nil _ _ _ _ _ | exact Kd.Q_nil _ _ _ _ _ | exact Kd.S_nil _ _ _ _ _, dL2_ HB GE295 GE296⟩

end Go.Proofs.Ytchflcnegpnkkaa.Q
