-- PRINTED by print.py (a twelfth state) out of the translation. Not trusted: Lean checks it.
import Derived.Test.YtchflcnegpnkkaaPrs
import Derived.Test.YtchflcnegpnkkaaQ0
import Derived.Test.YtchflcnegpnkkaaQ11
namespace Go.Proofs.Ytchflcnegpnkkaa.Q
open Go.RowKit Go.Proofs.YtchflcnegpnkkaaPrs Go.Proofs.YtchflcnegpnkkaaOwn Go.Proofs.YtchflcnegpnkkaaW.PrintWords Go.Proofs.YtchflcnegpnkkaaW.PrintLast Go.Proofs.YtchflcnegpnkkaaW.PrintMore
open List renaming setIfInBounds_toArray → sI_, set_cons_zero → s0_, set_cons_succ → sS_
attribute [local go_sem] max2_int min2_int max_two min_two max_three min_three max_four min_four   -- for this text's walks alone
set_option linter.unusedVariables false
set_option linter.unusedSimpArgs false

/-! ### hinterlandref02_Settle: function 32 -/
mutual
def hinterlandref02_Settle.j0 : Nat → Int → Int → List Int → Bool → Option (Int × Int × List Int × Int)
  | 0, _, _, _, _ => none
  | k + 1, x0, x1, x2, x32 => if x32 = true then (some (0, 0, ([] : List Int), 1)) else (if 0 ≤ (x2.length : Int) then (if ((x2.length : Int) : Int).toNat ≤ 35184372088832 then (hinterlandref02_Settle.l0 k x0 x1 (List.replicate ((x2.length : Int) : Int).toNat 0) x2 (x2.length : Int) 0) else (none)) else (none))
def hinterlandref02_Settle.l0 : Nat → Int → Int → List Int → List Int → Int → Int → Option (Int × Int × List Int × Int)
  | 0, _, _, _, _, _, _ => none
  | k + 1, x0, x1, x8, x37, x38, x39 => if x39 < x38 then (if 0 ≤ x39 then (if x39 < (x37.length : Int) then (if x39 < (x8.length : Int) then (hinterlandref02_Settle.l0 k x0 x1 (x8.set (x39 : Int).toNat (mn (mx (rd x37 x39) 0) 15)) x37 x38 (wrap64 (x39 + 1))) else (none)) else (none)) else (none)) else (hinterlandref02_Settle.l1 k x0 x1 x8 0)
def hinterlandref02_Settle.l1 : Nat → Int → Int → List Int → Int → Option (Int × Int × List Int × Int)
  | 0, _, _, _, _ => none
  | k + 1, x0, x1, x8, x51 => if x51 < 2 then (hinterlandref02_Settle.l2 k x0 x1 x8 x51 (x8.length : Int) 0) else (some (x0, x1, x8, 0))
def hinterlandref02_Settle.l2 : Nat → Int → Int → List Int → Int → Int → Int → Option (Int × Int × List Int × Int)
  | 0, _, _, _, _, _, _ => none
  | k + 1, x0, x1, x8, x51, x54, x55 => if x55 < x54 then (if (wrap64 (x0 + 1)) = 0 then (none) else (if (Int.tmod x55 (wrap64 (x0 + 1))) > 0 then (if 0 ≤ x55 then (if x55 < (x8.length : Int) then (if 0 ≤ (wrap64 (x55 - 1)) then (if (wrap64 (x55 - 1)) < (x8.length : Int) then (hinterlandref02_Settle.l2 k x0 x1 (x8.set (x55 : Int).toNat (mn (rd x8 x55) (wrap64 ((rd x8 (wrap64 (x55 - 1))) + 1)))) x51 x54 (wrap64 (x55 + 1))) else (none)) else (none)) else (none)) else (none)) else (hinterlandref02_Settle.l2 k x0 x1 x8 x51 x54 (wrap64 (x55 + 1))))) else (hinterlandref02_Settle.l3 k x0 x1 x8 (wrap64 ((x8.length : Int) - 1)) x51)
def hinterlandref02_Settle.l3 : Nat → Int → Int → List Int → Int → Int → Option (Int × Int × List Int × Int)
  | 0, _, _, _, _, _ => none
  | k + 1, x0, x1, x8, x12, x51 => if x12 ≥ 0 then (if (wrap64 (x0 + 1)) = 0 then (none) else (if (Int.tmod x12 (wrap64 (x0 + 1))) < x0 then (if 0 ≤ x12 then (if x12 < (x8.length : Int) then (if 0 ≤ (wrap64 (x12 + 1)) then (if (wrap64 (x12 + 1)) < (x8.length : Int) then (hinterlandref02_Settle.l3 k x0 x1 (x8.set (x12 : Int).toNat (mn (rd x8 x12) (wrap64 ((rd x8 (wrap64 (x12 + 1))) + 1)))) (wrap64 (x12 - 1)) x51) else (none)) else (none)) else (none)) else (none)) else (hinterlandref02_Settle.l3 k x0 x1 x8 (wrap64 (x12 - 1)) x51))) else (hinterlandref02_Settle.l4 k x0 x1 x8 (wrap64 (x0 + 1)) x51)
def hinterlandref02_Settle.l4 : Nat → Int → Int → List Int → Int → Int → Option (Int × Int × List Int × Int)
  | 0, _, _, _, _, _ => none
  | k + 1, x0, x1, x8, x13, x51 => if x13 < (x8.length : Int) then (if 0 ≤ x13 then (if 0 ≤ (wrap64 ((wrap64 (x13 - x0)) - 1)) then (if (wrap64 ((wrap64 (x13 - x0)) - 1)) < (x8.length : Int) then (hinterlandref02_Settle.l4 k x0 x1 (x8.set (x13 : Int).toNat (mn (rd x8 x13) (wrap64 ((rd x8 (wrap64 ((wrap64 (x13 - x0)) - 1))) + 1)))) (wrap64 (x13 + 1)) x51) else (none)) else (none)) else (none)) else (hinterlandref02_Settle.l5 k x0 x1 x8 (wrap64 ((wrap64 ((x8.length : Int) - x0)) - 2)) x51)
def hinterlandref02_Settle.l5 : Nat → Int → Int → List Int → Int → Int → Option (Int × Int × List Int × Int)
  | 0, _, _, _, _, _ => none
  | k + 1, x0, x1, x8, x14, x51 => if x14 ≥ 0 then (if 0 ≤ x14 then (if x14 < (x8.length : Int) then (if 0 ≤ (wrap64 ((wrap64 (x14 + x0)) + 1)) then (if (wrap64 ((wrap64 (x14 + x0)) + 1)) < (x8.length : Int) then (hinterlandref02_Settle.l5 k x0 x1 (x8.set (x14 : Int).toNat (mn (rd x8 x14) (wrap64 ((rd x8 (wrap64 ((wrap64 (x14 + x0)) + 1))) + 1)))) (wrap64 (x14 - 1)) x51) else (none)) else (none)) else (none)) else (none)) else (hinterlandref02_Settle.l1 k x0 x1 x8 (wrap64 (x51 + 1)))
end
def hinterlandref02_Settle.f (k : Nat) (a0 : Int) (a1 : Int) (l2 : List Int) : Option (Int × Int × List Int × Int) := (hinterlandref02_side.f a0).bind fun t487 => (if t487 = true then ((hinterlandref02_side.f a1).bind fun t488 => (if t488 = true then (hinterlandref02_Settle.j0 k a0 a1 l2 ((l2.length : Int) != (wrap64 ((wrap64 (a0 + 1)) * (wrap64 (a1 + 1)))))) else (hinterlandref02_Settle.j0 k a0 a1 l2 true))) else (hinterlandref02_Settle.j0 k a0 a1 l2 true))
theorem hinterlandref02_Settle.mono_l : ∀ k, (∀ y0 y1 y2 y3, LeO (hinterlandref02_Settle.j0 k y0 y1 y2 y3) (hinterlandref02_Settle.j0 (k + 1) y0 y1 y2 y3)) ∧ (∀ y0 y1 y2 y3 y4 y5, LeO (hinterlandref02_Settle.l0 k y0 y1 y2 y3 y4 y5) (hinterlandref02_Settle.l0 (k + 1) y0 y1 y2 y3 y4 y5)) ∧ (∀ y0 y1 y2 y3, LeO (hinterlandref02_Settle.l1 k y0 y1 y2 y3) (hinterlandref02_Settle.l1 (k + 1) y0 y1 y2 y3)) ∧ (∀ y0 y1 y2 y3 y4 y5, LeO (hinterlandref02_Settle.l2 k y0 y1 y2 y3 y4 y5) (hinterlandref02_Settle.l2 (k + 1) y0 y1 y2 y3 y4 y5)) ∧ (∀ y0 y1 y2 y3 y4, LeO (hinterlandref02_Settle.l3 k y0 y1 y2 y3 y4) (hinterlandref02_Settle.l3 (k + 1) y0 y1 y2 y3 y4)) ∧ (∀ y0 y1 y2 y3 y4, LeO (hinterlandref02_Settle.l4 k y0 y1 y2 y3 y4) (hinterlandref02_Settle.l4 (k + 1) y0 y1 y2 y3 y4)) ∧ (∀ y0 y1 y2 y3 y4, LeO (hinterlandref02_Settle.l5 k y0 y1 y2 y3 y4) (hinterlandref02_Settle.l5 (k + 1) y0 y1 y2 y3 y4))
  | 0 => ⟨fun _ _ _ _ r h => by simp [hinterlandref02_Settle.j0] at h, fun _ _ _ _ _ _ r h => by simp [hinterlandref02_Settle.l0] at h, fun _ _ _ _ r h => by simp [hinterlandref02_Settle.l1] at h, fun _ _ _ _ _ _ r h => by simp [hinterlandref02_Settle.l2] at h, fun _ _ _ _ _ r h => by simp [hinterlandref02_Settle.l3] at h, fun _ _ _ _ _ r h => by simp [hinterlandref02_Settle.l4] at h, fun _ _ _ _ _ r h => by simp [hinterlandref02_Settle.l5] at h⟩
  | k + 1 => by
    obtain ⟨ih0, ih1, ih2, ih3, ih4, ih5, ih6⟩ := hinterlandref02_Settle.mono_l k
    refine ⟨?_, ?_, ?_, ?_, ?_, ?_, ?_⟩
    · intro y0 y1 y2 y3
      unfold hinterlandref02_Settle.j0
      repeat' first
      | (with_reducible first | exact ih0 _ _ _ _ | exact ih1 _ _ _ _ _ _ | exact ih2 _ _ _ _ | exact ih3 _ _ _ _ _ _ | exact ih4 _ _ _ _ _ | exact ih5 _ _ _ _ _ | exact ih6 _ _ _ _ _ | exact LeO.refl _ | exact LeO.none _ | refine LeO.ite ?_ ?_ | refine LeO.bind ?_ (fun _ => ?_))
      | exact ih0 _ _ _ _
      | exact ih1 _ _ _ _ _ _
      | exact ih2 _ _ _ _
      | exact ih3 _ _ _ _ _ _
      | exact ih4 _ _ _ _ _
      | exact ih5 _ _ _ _ _
      | exact ih6 _ _ _ _ _
      | exact LeO.none _
      | refine LeO.ite ?_ ?_
      | refine LeO.bind ?_ (fun _ => ?_)
    · intro y0 y1 y2 y3 y4 y5
      unfold hinterlandref02_Settle.l0
      repeat' first
      | (with_reducible first | exact ih0 _ _ _ _ | exact ih1 _ _ _ _ _ _ | exact ih2 _ _ _ _ | exact ih3 _ _ _ _ _ _ | exact ih4 _ _ _ _ _ | exact ih5 _ _ _ _ _ | exact ih6 _ _ _ _ _ | exact LeO.refl _ | exact LeO.none _ | refine LeO.ite ?_ ?_ | refine LeO.bind ?_ (fun _ => ?_))
      | exact ih0 _ _ _ _
      | exact ih1 _ _ _ _ _ _
      | exact ih2 _ _ _ _
      | exact ih3 _ _ _ _ _ _
      | exact ih4 _ _ _ _ _
      | exact ih5 _ _ _ _ _
      | exact ih6 _ _ _ _ _
      | exact LeO.none _
      | refine LeO.ite ?_ ?_
      | refine LeO.bind ?_ (fun _ => ?_)
    · intro y0 y1 y2 y3
      unfold hinterlandref02_Settle.l1
      repeat' first
      | (with_reducible first | exact ih0 _ _ _ _ | exact ih1 _ _ _ _ _ _ | exact ih2 _ _ _ _ | exact ih3 _ _ _ _ _ _ | exact ih4 _ _ _ _ _ | exact ih5 _ _ _ _ _ | exact ih6 _ _ _ _ _ | exact LeO.refl _ | exact LeO.none _ | refine LeO.ite ?_ ?_ | refine LeO.bind ?_ (fun _ => ?_))
      | exact ih0 _ _ _ _
      | exact ih1 _ _ _ _ _ _
      | exact ih2 _ _ _ _
      | exact ih3 _ _ _ _ _ _
      | exact ih4 _ _ _ _ _
      | exact ih5 _ _ _ _ _
      | exact ih6 _ _ _ _ _
      | exact LeO.none _
      | refine LeO.ite ?_ ?_
      | refine LeO.bind ?_ (fun _ => ?_)
    · intro y0 y1 y2 y3 y4 y5
      unfold hinterlandref02_Settle.l2
      repeat' first
      | (with_reducible first | exact ih0 _ _ _ _ | exact ih1 _ _ _ _ _ _ | exact ih2 _ _ _ _ | exact ih3 _ _ _ _ _ _ | exact ih4 _ _ _ _ _ | exact ih5 _ _ _ _ _ | exact ih6 _ _ _ _ _ | exact LeO.refl _ | exact LeO.none _ | refine LeO.ite ?_ ?_ | refine LeO.bind ?_ (fun _ => ?_))
      | exact ih0 _ _ _ _
      | exact ih1 _ _ _ _ _ _
      | exact ih2 _ _ _ _
      | exact ih3 _ _ _ _ _ _
      | exact ih4 _ _ _ _ _
      | exact ih5 _ _ _ _ _
      | exact ih6 _ _ _ _ _
      | exact LeO.none _
      | refine LeO.ite ?_ ?_
      | refine LeO.bind ?_ (fun _ => ?_)
    · intro y0 y1 y2 y3 y4
      unfold hinterlandref02_Settle.l3
      repeat' first
      | (with_reducible first | exact ih0 _ _ _ _ | exact ih1 _ _ _ _ _ _ | exact ih2 _ _ _ _ | exact ih3 _ _ _ _ _ _ | exact ih4 _ _ _ _ _ | exact ih5 _ _ _ _ _ | exact ih6 _ _ _ _ _ | exact LeO.refl _ | exact LeO.none _ | refine LeO.ite ?_ ?_ | refine LeO.bind ?_ (fun _ => ?_))
      | exact ih0 _ _ _ _
      | exact ih1 _ _ _ _ _ _
      | exact ih2 _ _ _ _
      | exact ih3 _ _ _ _ _ _
      | exact ih4 _ _ _ _ _
      | exact ih5 _ _ _ _ _
      | exact ih6 _ _ _ _ _
      | exact LeO.none _
      | refine LeO.ite ?_ ?_
      | refine LeO.bind ?_ (fun _ => ?_)
    · intro y0 y1 y2 y3 y4
      unfold hinterlandref02_Settle.l4
      repeat' first
      | (with_reducible first | exact ih0 _ _ _ _ | exact ih1 _ _ _ _ _ _ | exact ih2 _ _ _ _ | exact ih3 _ _ _ _ _ _ | exact ih4 _ _ _ _ _ | exact ih5 _ _ _ _ _ | exact ih6 _ _ _ _ _ | exact LeO.refl _ | exact LeO.none _ | refine LeO.ite ?_ ?_ | refine LeO.bind ?_ (fun _ => ?_))
      | exact ih0 _ _ _ _
      | exact ih1 _ _ _ _ _ _
      | exact ih2 _ _ _ _
      | exact ih3 _ _ _ _ _ _
      | exact ih4 _ _ _ _ _
      | exact ih5 _ _ _ _ _
      | exact ih6 _ _ _ _ _
      | exact LeO.none _
      | refine LeO.ite ?_ ?_
      | refine LeO.bind ?_ (fun _ => ?_)
    · intro y0 y1 y2 y3 y4
      unfold hinterlandref02_Settle.l5
      repeat' first
      | (with_reducible first | exact ih0 _ _ _ _ | exact ih1 _ _ _ _ _ _ | exact ih2 _ _ _ _ | exact ih3 _ _ _ _ _ _ | exact ih4 _ _ _ _ _ | exact ih5 _ _ _ _ _ | exact ih6 _ _ _ _ _ | exact LeO.refl _ | exact LeO.none _ | refine LeO.ite ?_ ?_ | refine LeO.bind ?_ (fun _ => ?_))
      | exact ih0 _ _ _ _
      | exact ih1 _ _ _ _ _ _
      | exact ih2 _ _ _ _
      | exact ih3 _ _ _ _ _ _
      | exact ih4 _ _ _ _ _
      | exact ih5 _ _ _ _ _
      | exact ih6 _ _ _ _ _
      | exact LeO.none _
      | refine LeO.ite ?_ ?_
      | refine LeO.bind ?_ (fun _ => ?_)
theorem hinterlandref02_Settle.mono : ∀ a0 a1 a2 k, LeO (hinterlandref02_Settle.f k a0 a1 a2) (hinterlandref02_Settle.f (k + 1) a0 a1 a2) := by
  intro a0 a1 a2 k
  obtain ⟨ih0, ih1, ih2, ih3, ih4, ih5, ih6⟩ := hinterlandref02_Settle.mono_l k
  unfold hinterlandref02_Settle.f
  repeat' first
      | (with_reducible first | exact ih0 _ _ _ _ | exact ih1 _ _ _ _ _ _ | exact ih2 _ _ _ _ | exact ih3 _ _ _ _ _ _ | exact ih4 _ _ _ _ _ | exact ih5 _ _ _ _ _ | exact ih6 _ _ _ _ _ | exact LeO.refl _ | exact LeO.none _ | refine LeO.ite ?_ ?_ | refine LeO.bind ?_ (fun _ => ?_))
      | exact ih0 _ _ _ _
      | exact ih1 _ _ _ _ _ _
      | exact ih2 _ _ _ _
      | exact ih3 _ _ _ _ _ _
      | exact ih4 _ _ _ _ _
      | exact ih5 _ _ _ _ _
      | exact ih6 _ _ _ _ _
      | exact LeO.none _
      | refine LeO.ite ?_ ?_
      | refine LeO.bind ?_ (fun _ => ?_)
def hinterlandref02_Settle.T15 : Bool × List (List Nat × List Nat) := (true, [([], []), ([], []), ([], []), ([], []), ([2, 3], [2, 3]), ([4], [4]), ([], []), ([], []), ([7], [7]), ([6, 8], [6, 8]), ([9], [9]), ([10], [10]), ([5, 11], [5, 11]), ([0, 1, 0, 1, 2, 3, 4, 5, 6, 7, 8, 9, 10, 11, 12], [0, 1]), ([13, 12, 0, 1, 2, 3, 4, 5, 6, 7, 8, 9, 10, 11, 12], [12, 13])])
def hinterlandref02_Settle.B15 : List Nat := [0, 0, 0, 0, 12, 28, 0, 0, 128, 448, 960, 1984, 4092, 8191, 16383]
theorem hinterlandref02_Settle.tab15 : rtab .any (opsOf Try.f32 15) = hinterlandref02_Settle.T15 := by kernel_rfl
theorem hinterlandref02_Settle.bits15 : waitsOk hinterlandref02_Settle.T15.2 hinterlandref02_Settle.B15 = true := by kernel_rfl
def hinterlandref02_Settle.T21 : Bool × List (List Nat × List Nat) := (true, [([], []), ([], []), ([], []), ([], []), ([2, 3], [2, 3]), ([4], [4]), ([], []), ([], []), ([7], [7]), ([6, 8], [6, 8]), ([9], [9]), ([10], [10]), ([5, 11], [5, 11]), ([0, 1, 0, 1, 2, 3, 4, 5, 6, 7, 8, 9, 10, 11, 12], [0, 1]), ([13, 12, 0, 1, 2, 3, 4, 5, 6, 7, 8, 9, 10, 11, 12], [12, 13])])
def hinterlandref02_Settle.B21 : List Nat := [0, 0, 0, 0, 12, 28, 0, 0, 128, 448, 960, 1984, 4092, 8191, 16383]
theorem hinterlandref02_Settle.tab21 : rtab .any (opsOf Try.f32 21) = hinterlandref02_Settle.T21 := by kernel_rfl
theorem hinterlandref02_Settle.bits21 : waitsOk hinterlandref02_Settle.T21.2 hinterlandref02_Settle.B21 = true := by kernel_rfl
def hinterlandref02_Settle.T25 : Bool × List (List Nat × List Nat) := (true, [([], []), ([], []), ([], []), ([], []), ([2, 3], [2, 3]), ([4], [4]), ([], []), ([], []), ([], []), ([7, 8], [7, 8]), ([9], [9]), ([6, 10], [6, 10]), ([11], [11]), ([12], [12]), ([5, 13], [5, 13]), ([0, 1, 0, 1, 2, 3, 4, 5, 6, 7, 8, 9, 10, 11, 12, 13, 14], [0, 1]), ([15, 14, 0, 1, 2, 3, 4, 5, 6, 7, 8, 9, 10, 11, 12, 13, 14], [14, 15])])
def hinterlandref02_Settle.B25 : List Nat := [0, 0, 0, 0, 12, 28, 0, 0, 0, 384, 896, 1984, 4032, 8128, 16380, 32767, 65535]
theorem hinterlandref02_Settle.tab25 : rtab .any (opsOf Try.f32 25) = hinterlandref02_Settle.T25 := by kernel_rfl
theorem hinterlandref02_Settle.bits25 : waitsOk hinterlandref02_Settle.T25.2 hinterlandref02_Settle.B25 = true := by kernel_rfl
def hinterlandref02_Settle.T29 : Bool × List (List Nat × List Nat) := (true, [([], []), ([], []), ([], []), ([], []), ([2, 3], [2, 3]), ([4], [4]), ([], []), ([], []), ([], []), ([7, 8], [7, 8]), ([9], [9]), ([6, 10], [6, 10]), ([11], [11]), ([12], [12]), ([5, 13], [5, 13]), ([0, 1, 0, 1, 2, 3, 4, 5, 6, 7, 8, 9, 10, 11, 12, 13, 14], [0, 1]), ([15, 14, 0, 1, 2, 3, 4, 5, 6, 7, 8, 9, 10, 11, 12, 13, 14], [14, 15])])
def hinterlandref02_Settle.B29 : List Nat := [0, 0, 0, 0, 12, 28, 0, 0, 0, 384, 896, 1984, 4032, 8128, 16380, 32767, 65535]
theorem hinterlandref02_Settle.tab29 : rtab .any (opsOf Try.f32 29) = hinterlandref02_Settle.T29 := by kernel_rfl
theorem hinterlandref02_Settle.bits29 : waitsOk hinterlandref02_Settle.T29.2 hinterlandref02_Settle.B29 = true := by kernel_rfl
set_option maxHeartbeats 8000000 in
set_option maxRecDepth 100000 in
theorem hinterlandref02_Settle.calls (k : Nat) (a0 : Int) (a1 : Int) (A2 : Option Addr) (c2 : Nat) (l2 : List Int) (r1 : Int) (r2 : Int) (r3 : List Int) (r4 : Int) (w : World) (hr2 : Kd.C (Kd.int .i64) w A2 l2.length l2) (hc2 : l2.length ≤ c2) (h : hinterlandref02_Settle.f k a0 a1 l2 = some (r1, r2, r3, r4)) :
    Calls Try.prog 32 #[.int .i64 a0, .int .i64 a1, .slice A2 l2.length c2] w fun e w' => ∃ v2_ : Value, e = .returned (.tuple #[.agg #[.int .i64 r1, .int .i64 r2, v2_], .int .i64 r4]) ∧ Kd.R (Kd.int .i64) 3 w' w.heap.size (fun _ => True) v2_ r3 ∧ Below w.heap.size w w' := by
 have hu24 := Try.underlying24
 have HR2 := Aside0.mk hr2
 have HC2 := Aside0.mk hc2
 clear hr2 hc2
 have HB := Aside0.mk (Below.refl w.heap.size w)
 have H : ((hinterlandref02_side.f a0).bind fun t487 => (if t487 = true then ((hinterlandref02_side.f a1).bind fun t488 => (if t488 = true then (hinterlandref02_Settle.j0 k a0 a1 l2 ((l2.length : Int) != (wrap64 ((wrap64 (a0 + 1)) * (wrap64 (a1 + 1)))))) else (hinterlandref02_Settle.j0 k a0 a1 l2 true))) else (hinterlandref02_Settle.j0 k a0 a1 l2 true))) = some (r1, r2, r3, r4) := h
 clear h
 have HC4 := Aside0.mk H
 clear H
 go_enter Try.func32, Try.ntmps32
 go_upto_region 1 with (first | ((with_reducible refine gate_dst (N := 6) rfl ?_); (try (refine gate_guard (by rfl) ?_; dsimp only)); refine box_event ?hg (N := 6) ?hd (cs := #[.int .i64 0, .int .i64 0, .slice none 0 0]) (t := 24) ?hr ?_; (case hd => rfl); (case hg => rfl); (case hr => first | (go_simp; done) | (go_simp; rfl)); intro gb486 hg w5 hbox hb; have BK486 := Aside0.mk (hbox); have GW486 := Aside0.mk ((dS_ hg (dL_ HB) : w.heap.size ≤ gb486)); have GE486 := Aside0.mk ((dS_ hg (dL_ HB) : w.heap.size ≤ gb486)); replace HB := Aside0.mk (below_step (dL_ HB) hb); clear hb hbox hg))
 (try simp only [Act.put, sI_, s0_, sS_])
 go_cut [32] (fun v32 wc => ∃ (kq : Nat) (x32_3 : Bool), v32 = .bool x32_3 ∧ Aside0 (hinterlandref02_Settle.j0 kq a0 a1 l2 x32_3 = some (r1, r2, r3, r4)) ∧ Aside0 (kq ≤ k) ∧ Aside0 (wc.heap[gb486]? = some (.cells #[.int .i64 0, .int .i64 0, (.slice none 0 0)] 24 (0, 0))) ∧ Aside0 (Below w.heap.size w wc))
 case first =>
  have H := HC4.out
  clear HC4
  replace H := Option.bind_eq_some_iff.mp H
  obtain ⟨t487, A60, H⟩ := H
  replace H : (if t487 = true then ((hinterlandref02_side.f a1).bind fun t488 => (if t488 = true then (hinterlandref02_Settle.j0 k a0 a1 l2 ((l2.length : Int) != (wrap64 ((wrap64 (a0 + 1)) * (wrap64 (a1 + 1)))))) else (hinterlandref02_Settle.j0 k a0 a1 l2 true))) else (hinterlandref02_Settle.j0 k a0 a1 l2 true)) = some (r1, r2, r3, r4) := H
  have A6 := Aside0.mk A60
  clear A60
  by_cases c7 : t487 = true
  ·subst c7
   have H1 : ((hinterlandref02_side.f a1).bind fun t488 => (if t488 = true then (hinterlandref02_Settle.j0 k a0 a1 l2 ((l2.length : Int) != (wrap64 ((wrap64 (a0 + 1)) * (wrap64 (a1 + 1)))))) else (hinterlandref02_Settle.j0 k a0 a1 l2 true))) = some (r1, r2, r3, r4) := by rw [if_pos rfl] at H; exact H
   clear H
   have H := H1
   clear H1
   replace H := Option.bind_eq_some_iff.mp H
   obtain ⟨t488, A80, H⟩ := H
   replace H : (if t488 = true then (hinterlandref02_Settle.j0 k a0 a1 l2 ((l2.length : Int) != (wrap64 ((wrap64 (a0 + 1)) * (wrap64 (a1 + 1)))))) else (hinterlandref02_Settle.j0 k a0 a1 l2 true)) = some (r1, r2, r3, r4) := H
   have A8 := Aside0.mk A80
   clear A80
   by_cases c9 : t488 = true
   ·subst c9
    have H1 : (hinterlandref02_Settle.j0 k a0 a1 l2 ((l2.length : Int) != (wrap64 ((wrap64 (a0 + 1)) * (wrap64 (a1 + 1)))))) = some (r1, r2, r3, r4) := by rw [if_pos rfl] at H; exact H
    clear H
    have H := H1
    clear H1
    have H' := Aside0.mk H
    clear H
    go_wp2_with (first | ((with_reducible refine gate_callee (f := 43) rfl ?_); refine goesL_ (some 16) rfl rfl Try.func43 (by kernel_rfl) rfl #[.int .i64 a0] rfl tA_ ?_; (with_reducible refine (hinterlandref02_side.calls a0 true _ A6.out).mono ?_); rintro e w' ⟨rfl, ⟨nd, rfl⟩⟩; refine ⟨_, rfl, ?_⟩) | (go_at_call 43; (with_reducible refine (hinterlandref02_side.calls a1 true _ A8.out).mono ?_); rintro e w' ⟨rfl, ⟨nd, rfl⟩⟩))
    go_meet
    case rel => exact ⟨_, (((l2.length : Int) != (wrap64 ((wrap64 (a0 + 1)) * (wrap64 (a1 + 1)))))), tS_, H', ⟨by first | omega | exact Nat.le_refl _⟩, ⟨dB_ BK486⟩, ⟨dL1_ HB GE486⟩⟩
   ·replace c9 := Bool.eq_false_iff.mpr c9
    subst c9
    have H1 : (hinterlandref02_Settle.j0 k a0 a1 l2 true) = some (r1, r2, r3, r4) := by rw [if_neg (show ¬ (false = true) by decide)] at H; exact H
    clear H
    have H := H1
    clear H1
    have H' := Aside0.mk H
    clear H
    go_wp2_with (first | ((with_reducible refine gate_callee (f := 43) rfl ?_); refine goesL_ (some 16) rfl rfl Try.func43 (by kernel_rfl) rfl #[.int .i64 a0] rfl tA_ ?_; (with_reducible refine (hinterlandref02_side.calls a0 true _ A6.out).mono ?_); rintro e w' ⟨rfl, ⟨nd, rfl⟩⟩; refine ⟨_, rfl, ?_⟩) | (go_at_call 43; (with_reducible refine (hinterlandref02_side.calls a1 false _ A8.out).mono ?_); rintro e w' ⟨rfl, ⟨nd, rfl⟩⟩))
    go_meet
    case rel => exact ⟨_, (true), tS_, H', ⟨by first | omega | exact Nat.le_refl _⟩, ⟨dB_ BK486⟩, ⟨dL1_ HB GE486⟩⟩
  ·replace c7 := Bool.eq_false_iff.mpr c7
   subst c7
   have H1 : (hinterlandref02_Settle.j0 k a0 a1 l2 true) = some (r1, r2, r3, r4) := by rw [if_neg (show ¬ (false = true) by decide)] at H; exact H
   clear H
   have H := H1
   clear H1
   have H' := Aside0.mk H
   clear H
   go_wp2_with (first | ((with_reducible refine gate_callee (f := 43) rfl ?_); refine goesL_ (some 16) rfl rfl Try.func43 (by kernel_rfl) rfl #[.int .i64 a0] rfl tA_ ?_; (with_reducible refine (hinterlandref02_side.calls a0 false _ A6.out).mono ?_); rintro e w' ⟨rfl, ⟨nd, rfl⟩⟩; refine ⟨_, rfl, ?_⟩))
   go_meet
   case rel => exact ⟨_, (true), tS_, H', ⟨by first | omega | exact Nat.le_refl _⟩, ⟨dB_ BK486⟩, ⟨dL1_ HB GE486⟩⟩
 case rest =>
  clear HC4
  try clear c2
  obtain ⟨kq, x32_3, rfl, HA, HJ3, BK486, HB⟩ := hcut
  cases kq with
  | zero => exact absurd HA.out (by simp [hinterlandref02_Settle.j0])
  | succ kj3 =>
   have H := HA.out
   clear HA
   simp only [hinterlandref02_Settle.j0] at H
   by_cases c10 : x32_3 = true
   ·subst c10
    have H1 : (some (0, 0, ([] : List Int), 1)) = some (r1, r2, r3, r4) := by rw [if_pos rfl] at H; exact H
    clear H
    have H := H1
    clear H1
    simp only [Option.some.injEq, Prod.mk.injEq] at H
    obtain ⟨rfl, rfl, rfl, rfl⟩ := H
    obtain ⟨hcz11_0, hcz11_1, hcz11_2, hfz11_0, hfz11_1, hfz11_2⟩ := cs3_ BK486.out
    go_wp2
    refine bodyPost_ret (results_ct rfl _ _ gb486 24 #[.int .i64 0, .int .i64 0, .slice none 0 0] (0, 0) _ rfl (by (with_reducible repeat (first | refine blk_drewN ?_ _ | refine blk_drew ?_ | refine blk_alloc ?_ _)); refine blk_put (cs := #[.int .i64 0, .int .i64 0, .slice none 0 0]) ?_ 2 _ rfl; (with_reducible repeat (first | refine blk_drewN ?_ _ | refine blk_drew ?_ | refine blk_alloc ?_ _)); refine blk_put (cs := #[.int .i64 0, .int .i64 0, .slice none 0 0]) ?_ 1 _ rfl; (with_reducible repeat (first | refine blk_drewN ?_ _ | refine blk_drew ?_ | refine blk_alloc ?_ _)); refine blk_put (cs := #[.int .i64 0, .int .i64 0, .slice none 0 0]) ?_ 0 _ rfl; (with_reducible repeat (first | refine blk_drewN ?_ _ | refine blk_drew ?_ | refine blk_alloc ?_ _)); exact BK486.out) Try.underlying24 rfl (by kernel_rfl)) rfl ?_
    exact ⟨_, tE_, by first | exact Kd.R_nil _ _ _ _ _ | exact Kd.N_nil _ _ _ _ _ | exact Kd.V_nil _ _ _ _ _ | exact Kd.Q_nil _ _ _ _ _ | exact Kd.S_nil _ _ _ _ _, dL1_ HB GE486⟩
   ·replace c10 := Bool.eq_false_iff.mpr c10
    subst c10
    have H1 : (if 0 ≤ (l2.length : Int) then (if ((l2.length : Int) : Int).toNat ≤ 35184372088832 then (hinterlandref02_Settle.l0 kj3 a0 a1 (List.replicate ((l2.length : Int) : Int).toNat 0) l2 (l2.length : Int) 0) else (none)) else (none)) = some (r1, r2, r3, r4) := by rw [if_neg (show ¬ (false = true) by decide)] at H; exact H
    clear H
    have H := H1
    clear H1
    by_cases c12 : 0 ≤ (l2.length : Int)
    ·rw [if_pos c12] at H
     have c12b0 := eq_true c12
     have c12b1 : decide (0 ≤ (l2.length : Int)) = true := decide_eq_true c12
     clear c12
     by_cases c13 : ((l2.length : Int) : Int).toNat ≤ 35184372088832
     ·rw [if_pos c13] at H
      have c13b0 := eq_true c13
      have c13b1 : decide (((l2.length : Int) : Int).toNat ≤ 35184372088832) = true := decide_eq_true c13
      clear c13
      obtain ⟨y489, hy489⟩ : ∃ y_ : List Int, y_ = (List.replicate ((l2.length : Int) : Int).toNat 0) := ⟨_, rfl⟩
      replace H : (hinterlandref02_Settle.l0 kj3 a0 a1 y489 l2 (l2.length : Int) 0) = some (r1, r2, r3, r4) := by first | (rw [hy489]; with_reducible exact H) | (have H2_ := (Option.bind_some _ _).symm.trans H; rw [hy489]; with_reducible exact H2_) | (have H2_ := (Option.bind_some _ _).symm.trans H; with_reducible exact H2_) | with_reducible exact H | (rw [hy489]; exact H) | exact H
      have Ny489 := Aside0.mk hy489
      clear hy489
      have H' := Aside0.mk H
      clear H
      go_wp2_with (first | ((with_reducible refine gate_dst (N := 36) rfl ?_); (try (refine gate_guard (by rfl) ?_; dsimp only)); refine Kd.R_make (Kd.int .i64) _ 3 rfl (N := 36) rfl 22 _ _ rfl (l2.length : Int) rfl rfl Try.underlying22 (.int .i64 0) 8 info3 rfl (by decide) (by omega) 0 (ok := fun _ => True) (okp := fun _ => True) rfl (fun _ hk => hk) trivial (of_decide_eq_true tW_) (Nat.le_trans (Nat.mul_le_mul_right _ (of_decide_eq_true tW_ : (l2.length : Int).toNat ≤ 35184372088832)) (by omega)) (Below.refl _ _) (Nat.le_refl _) ?_; intro v490 w14 ho15 hb hg_ hnew_; clear hg_ hnew_; (first | rw [← Ny489.out] at ho15 | (simp only [Int.reduceToNat] at ho15; rw [← Ny489.out] at ho15)); have HO491 := Aside0.mk (Kd.R_lower ho15 (below_size (dL1_ HB GE486))); replace BK486 := Aside0.mk (blk_below (g := gb486) (o := .cells #[.int .i64 0, .int .i64 0, .slice none 0 0] 24 (0, 0)) (dB_ BK486) hb); replace HB := Aside0.mk (below_step (dL1_ HB GE486) hb); clear hb ho15))
      go_loopg [39] kj3 (fun kq v39 w' => ∃ (x8_2 : List Int) (x39_2 : Int), v39 = .int .i64 x39_2 ∧ Aside0 (hinterlandref02_Settle.l0 kq a0 a1 x8_2 l2 (l2.length : Int) x39_2 = some (r1, r2, r3, r4)) ∧ Aside0 (kq ≤ kj3) ∧ Aside0 (Kd.R (Kd.int .i64) 3 w' w.heap.size (fun _ => True) v490 x8_2) ∧ Aside0 (w'.heap[gb486]? = some (.cells #[.int .i64 0, .int .i64 0, (.slice none 0 0)] 24 (0, 0))) ∧ Aside0 (Below w.heap.size w w'))
      case atStart => exact ⟨(y489), (0), tS_, H', ⟨Nat.le_refl _⟩, ⟨dR_ HO491⟩, ⟨dB_ BK486⟩, ⟨dL1_ HB GE486⟩⟩
      case round =>
       clear H'
       try clear c2
       try clear c10
       try clear c12
       try clear c12b0
       try clear c12b1
       try clear c13
       try clear c13b0
       try clear c13b1
       obtain ⟨x8_2, x39_2, rfl, HA, HK2, HO_8, BK486, HB⟩ := hrel
       cases gk with
       | zero => exact absurd HA.out (by simp [hinterlandref02_Settle.l0])
       | succ k2 =>
        have H := HA.out
        clear HA
        simp only [hinterlandref02_Settle.l0] at H
        by_cases c16 : x39_2 < (l2.length : Int)
        ·rw [if_pos c16] at H
         have c16b0 : decide (x39_2 < (l2.length : Int)) = true := decide_eq_true c16
         clear c16
         by_cases c17 : 0 ≤ x39_2
         ·rw [if_pos c17] at H
          have c17b0 : decide (0 ≤ x39_2) = true := decide_eq_true c17
          clear c17
          by_cases c18 : x39_2 < (l2.length : Int)
          ·rw [if_pos c18] at H
           have c18b0 : decide (x39_2 < (l2.length : Int)) = true := decide_eq_true c18
           clear c18
           obtain ⟨ji19, hji19⟩ : ∃ j_ : Int, (mx (rd l2 x39_2) 0) = j_ := ⟨_, rfl⟩
           replace H : (if x39_2 < (x8_2.length : Int) then (hinterlandref02_Settle.l0 k2 a0 a1 (x8_2.set (x39_2 : Int).toNat (mn (ji19) 15)) l2 (l2.length : Int) (wrap64 (x39_2 + 1))) else (none)) = some (r1, r2, r3, r4) := by first | (rw [hji19] at H; exact H) | (simp only [hji19] at H ⊢; exact H)
           have hji19_ : (if (rd l2 x39_2) < 0 then 0 else (rd l2 x39_2)) = ji19 := hji19
           obtain ⟨ji20, hji20⟩ : ∃ j_ : Int, (mn (ji19) 15) = j_ := ⟨_, rfl⟩
           replace H : (if x39_2 < (x8_2.length : Int) then (hinterlandref02_Settle.l0 k2 a0 a1 (x8_2.set (x39_2 : Int).toNat (ji20)) l2 (l2.length : Int) (wrap64 (x39_2 + 1))) else (none)) = some (r1, r2, r3, r4) := by first | (rw [hji20] at H; exact H) | (simp only [hji20] at H ⊢; exact H)
           have hji20_ : (if 15 < (ji19) then 15 else (ji19)) = ji20 := hji20
           by_cases c21 : x39_2 < (x8_2.length : Int)
           ·rw [if_pos c21] at H
            have c21b0 : decide (x39_2 < (x8_2.length : Int)) = true := decide_eq_true c21
            clear c21
            obtain ⟨y493, hy493⟩ : ∃ y_ : List Int, y_ = (x8_2.set (x39_2 : Int).toNat (ji20)) := ⟨_, rfl⟩
            replace H : (hinterlandref02_Settle.l0 k2 a0 a1 y493 l2 (l2.length : Int) (wrap64 (x39_2 + 1))) = some (r1, r2, r3, r4) := by first | (rw [hy493]; with_reducible exact H) | (have H2_ := (Option.bind_some _ _).symm.trans H; rw [hy493]; with_reducible exact H2_) | (have H2_ := (Option.bind_some _ _).symm.trans H; with_reducible exact H2_) | with_reducible exact H | (rw [hy493]; exact H) | exact H
            have Ny493 := Aside0.mk hy493
            clear hy493
            have H' := Aside0.mk H
            clear H
            have p492 : 0 ≤ (x39_2 : Int) := of_decide_eq_true tW_
            have q492 : x39_2 < (l2.length : Int) := of_decide_eq_true tW_
            obtain ⟨ad492, e492, hx492_0⟩ := Kd.at_int HR2.out x39_2 p492 q492
            cases e492
            replace hx492_0 := bc_ HB hx492_0
            replace p492 := eq_true p492
            replace q492 := eq_true q492
            have p22 : 0 ≤ (x39_2 : Int) := of_decide_eq_true tW_
            have q22 : (x39_2 : Int) < ((x8_2.length : Int) : Int) := of_decide_eq_true tW_
            obtain ⟨go22, co22, eo22, gb22, gl22, cl22, HG22⟩ := Kd.R_form HO_8.out (by omega)
            (first | cases eo22 | (injection eo22 with ea_ en_ ec_; (first | subst ea_ | (injection ea_ with ea_; subst ea_)); subst ec_; clear en_))
            have GB22 := Aside0.mk gb22
            have GG22 := Aside0.mk HG22
            clear gb22 gl22 HG22
            obtain ⟨hx22_0, hf22_0⟩ := Kd.R_celln 0 HO_8.out (x39_2 : Int) p22 q22
            replace p22 := eq_true p22
            replace q22 := eq_true q22
            have HP23 := Kd.R_putg HO_8.out (x39_2 : Int) ji20
            go_wp2_with (first | ((with_reducible refine gate_store (t := 3) (p := 49) rfl ?_); refine store_event (t := 3) (p := 49) (v := ?vo_w24) (w1 := (wr.setCell ⟨go22, (x39_2 : Int).toNat, none⟩ (.int .i64 ji20))) ?hg ?ho ?hn ?hr ?_; (case ho => rfl); (case hg => rfl); (case hn => rfl); (case hr => first | (go_simp; done) | (go_simp; rfl)); intro w24 hw; have hg : wr.grownBy w24 (some go22) := (by rw [hw]; exact HP23.2); have hp_ : Kd.R (Kd.int .i64) 3 w24 w.heap.size (fun _ => True) (.slice (some ⟨go22, 0, none⟩) x8_2.length co22) y493 := (by rw [hw, Ny493.out]; exact HP23.1); clear HP23; replace BK486 := Aside0.mk (blk_grown (g := gb486) (o := .cells #[.int .i64 0, .int .i64 0, .slice none 0 0] 24 (0, 0)) (dB_ BK486) hg (Kd.R_ne HO_8.out BK486.out (by decide))); replace HO_8 := Aside0.mk (hp_); replace HB := Aside0.mk ((by rw [hw]; exact below_set (HB.out) GB22.out : Below w.heap.size w w24)); clear hg hw hp_))
            go_roundg k2
            case measure => have := HJ3.out; have := HK2.out; omega
            case rel => exact ⟨(y493), (wrap64 (x39_2 + 1)), tS_, H', ⟨by have := HJ3.out; have := HK2.out; omega⟩, ⟨dR_ HO_8⟩, ⟨dB_ BK486⟩, ⟨dL1_ HB GE486⟩⟩
           ·rw [if_neg c21] at H
            exact absurd H (by simp)
          ·rw [if_neg c18] at H
           exact absurd H (by simp)
         ·rw [if_neg c17] at H
          exact absurd H (by simp)
        ·rw [if_neg c16] at H
         have c16b0 : decide (x39_2 < (l2.length : Int)) = false := decide_eq_false c16
         clear c16
         have H' := Aside0.mk H
         clear H
         go_wp2
         go_loopg [51] k2 (fun kq v51 w' => ∃ (x8_3 : List Int) (x51_3 : Int), v51 = .int .i64 x51_3 ∧ Aside0 (hinterlandref02_Settle.l1 kq a0 a1 x8_3 x51_3 = some (r1, r2, r3, r4)) ∧ Aside0 (kq ≤ k2) ∧ Aside0 (Kd.R (Kd.int .i64) 3 w' w.heap.size (fun _ => True) v490 x8_3) ∧ Aside0 (w'.heap[gb486]? = some (.cells #[.int .i64 0, .int .i64 0, (.slice none 0 0)] 24 (0, 0))) ∧ Aside0 (Below w.heap.size w w'))
         case atStart => exact ⟨(x8_2), (0), tS_, H', ⟨Nat.le_refl _⟩, ⟨dR_ HO_8⟩, ⟨dB_ BK486⟩, ⟨dL1_ HB GE486⟩⟩
         case round =>
          clear H'
          try clear c2
          try clear c10
          try clear c12
          try clear c12b0
          try clear c12b1
          try clear c13
          try clear c13b0
          try clear c13b1
          try clear c16
          try clear c16b0
          try clear c17
          try clear c18
          try clear c21
          obtain ⟨x8_3, x51_3, rfl, HA, HK3, HO_8, BK486, HB⟩ := hrel
          cases gk with
          | zero => exact absurd HA.out (by simp [hinterlandref02_Settle.l1])
          | succ k3 =>
           have H := HA.out
           clear HA
           simp only [hinterlandref02_Settle.l1] at H
           by_cases c25 : x51_3 < 2
           ·rw [if_pos c25] at H
            have c25b0 : decide (x51_3 < 2) = true := decide_eq_true c25
            clear c25
            have H' := Aside0.mk H
            clear H
            obtain ⟨Ao26, co26, eo26⟩ := Kd.R_slice HO_8.out
            subst eo26
            go_wp2
            go_loopg [55] k3 (fun kq v55 w' => ∃ (x8_4 : List Int) (x55_4 : Int), v55 = .int .i64 x55_4 ∧ Aside0 (hinterlandref02_Settle.l2 kq a0 a1 x8_4 x51_3 (x8_3.length : Int) x55_4 = some (r1, r2, r3, r4)) ∧ Aside0 (kq ≤ k3) ∧ Aside0 (Kd.R (Kd.int .i64) 3 w' w.heap.size (fun _ => True) (.slice Ao26 x8_3.length co26) x8_4) ∧ Aside0 (w'.heap[gb486]? = some (.cells #[.int .i64 0, .int .i64 0, (.slice none 0 0)] 24 (0, 0))) ∧ Aside0 (Below w.heap.size w w'))
            case atStart => exact ⟨(x8_3), (0), tS_, H', ⟨Nat.le_refl _⟩, ⟨dR_ HO_8⟩, ⟨dB_ BK486⟩, ⟨dL1_ HB GE486⟩⟩
            case round =>
             clear H'
             try clear c2
             try clear c10
             try clear c12
             try clear c12b0
             try clear c12b1
             try clear c13
             try clear c13b0
             try clear c13b1
             try clear c16
             try clear c16b0
             try clear c17
             try clear c18
             try clear c21
             try clear c25
             try clear c25b0
             obtain ⟨x8_4, x55_4, rfl, HA, HK4, HO_8, BK486, HB⟩ := hrel
             have hl8_4 := (Kd.R_reads' HO_8.out).1
             rw [hl8_4] at HO_8
             (try simp only [hl8_4])
             (try simp only [hl8_4] at BK486)
             cases gk with
             | zero => exact absurd HA.out (by simp [hinterlandref02_Settle.l2])
             | succ k4 =>
              have H := HA.out
              clear HA
              simp only [hinterlandref02_Settle.l2] at H
              by_cases c27 : x55_4 < (x8_3.length : Int)
              ·rw [if_pos c27] at H
               have c27b0 : decide (x55_4 < (x8_3.length : Int)) = true := decide_eq_true c27
               clear c27
               (try (have c27y0 := c27b0; simp only [hl8_4] at c27y0))
               (try (have c27y1 := c27b1; simp only [hl8_4] at c27y1))
               (try (have c27y2 := c27b2; simp only [hl8_4] at c27y2))
               by_cases c28 : (wrap64 (a0 + 1)) = 0
               ·rw [if_pos c28] at H
                exact absurd H (by simp)
               ·rw [if_neg c28] at H
                have c28b0 : ((wrap64 (a0 + 1)) == 0) = false := beq_eq_false_iff_ne.mpr c28
                have c28b1 : ((wrap64 (a0 + 1)) != 0) = true := bne_iff_ne.mpr c28
                (try (have c28y0 := c28b0; simp only [hl8_4] at c28y0))
                (try (have c28y1 := c28b1; simp only [hl8_4] at c28y1))
                (try (have c28y2 := c28b2; simp only [hl8_4] at c28y2))
                by_cases c29 : (Int.tmod x55_4 (wrap64 (a0 + 1))) > 0
                ·rw [if_pos c29] at H
                 have c29b0 : decide (0 < (Int.tmod x55_4 (wrap64 (a0 + 1)))) = true := decide_eq_true c29
                 clear c29
                 (try (have c29y0 := c29b0; simp only [hl8_4] at c29y0))
                 (try (have c29y1 := c29b1; simp only [hl8_4] at c29y1))
                 (try (have c29y2 := c29b2; simp only [hl8_4] at c29y2))
                 by_cases c30 : 0 ≤ x55_4
                 ·rw [if_pos c30] at H
                  have c30b0 : decide (0 ≤ x55_4) = true := decide_eq_true c30
                  clear c30
                  (try (have c30y0 := c30b0; simp only [hl8_4] at c30y0))
                  (try (have c30y1 := c30b1; simp only [hl8_4] at c30y1))
                  (try (have c30y2 := c30b2; simp only [hl8_4] at c30y2))
                  by_cases c31 : x55_4 < (x8_4.length : Int)
                  ·rw [if_pos c31] at H
                   have c31b0 : decide (x55_4 < (x8_4.length : Int)) = true := decide_eq_true c31
                   clear c31
                   (try (have c31y0 := c31b0; simp only [hl8_4] at c31y0))
                   (try (have c31y1 := c31b1; simp only [hl8_4] at c31y1))
                   (try (have c31y2 := c31b2; simp only [hl8_4] at c31y2))
                   obtain ⟨ji32, hji32⟩ : ∃ j_ : Int, (wrap64 (x55_4 - 1)) = j_ := ⟨_, rfl⟩
                   replace H : (if 0 ≤ (ji32) then (if (ji32) < (x8_4.length : Int) then (hinterlandref02_Settle.l2 k4 a0 a1 (x8_4.set (x55_4 : Int).toNat (mn (rd x8_4 x55_4) (wrap64 ((rd x8_4 (ji32)) + 1)))) x51_3 (x8_3.length : Int) (wrap64 (x55_4 + 1))) else (none)) else (none)) = some (r1, r2, r3, r4) := by first | (rw [hji32] at H; exact H) | (simp only [hji32] at H ⊢; exact H)
                   have hji32w : (IntKind.i64.wrap (x55_4 - 1)) = ji32 := (i64_w _).trans hji32
                   by_cases c33 : 0 ≤ (ji32)
                   ·rw [if_pos c33] at H
                    have c33b0 : decide (0 ≤ (ji32)) = true := decide_eq_true c33
                    clear c33
                    (try (have c33y0 := c33b0; simp only [hl8_4] at c33y0))
                    (try (have c33y1 := c33b1; simp only [hl8_4] at c33y1))
                    (try (have c33y2 := c33b2; simp only [hl8_4] at c33y2))
                    by_cases c34 : (ji32) < (x8_4.length : Int)
                    ·rw [if_pos c34] at H
                     have c34b0 : decide ((ji32) < (x8_4.length : Int)) = true := decide_eq_true c34
                     clear c34
                     (try (have c34y0 := c34b0; simp only [hl8_4] at c34y0))
                     (try (have c34y1 := c34b1; simp only [hl8_4] at c34y1))
                     (try (have c34y2 := c34b2; simp only [hl8_4] at c34y2))
                     obtain ⟨ji35, hji35⟩ : ∃ j_ : Int, (mn (rd x8_4 x55_4) (wrap64 ((rd x8_4 (ji32)) + 1))) = j_ := ⟨_, rfl⟩
                     replace H : (hinterlandref02_Settle.l2 k4 a0 a1 (x8_4.set (x55_4 : Int).toNat (ji35)) x51_3 (x8_3.length : Int) (wrap64 (x55_4 + 1))) = some (r1, r2, r3, r4) := by first | (rw [hji35] at H; exact H) | (simp only [hji35] at H ⊢; exact H)
                     have hji35_ : (if (wrap64 ((rd x8_4 (ji32)) + 1)) < (rd x8_4 x55_4) then (wrap64 ((rd x8_4 (ji32)) + 1)) else (rd x8_4 x55_4)) = ji35 := hji35
                     obtain ⟨y496, hy496⟩ : ∃ y_ : List Int, y_ = (x8_4.set (x55_4 : Int).toNat (ji35)) := ⟨_, rfl⟩
                     replace H : (hinterlandref02_Settle.l2 k4 a0 a1 y496 x51_3 (x8_3.length : Int) (wrap64 (x55_4 + 1))) = some (r1, r2, r3, r4) := by first | (rw [hy496]; with_reducible exact H) | (have H2_ := (Option.bind_some _ _).symm.trans H; rw [hy496]; with_reducible exact H2_) | (have H2_ := (Option.bind_some _ _).symm.trans H; with_reducible exact H2_) | with_reducible exact H | (rw [hy496]; exact H) | exact H
                     have Ny496 := Aside0.mk hy496
                     clear hy496
                     have H' := Aside0.mk H
                     clear H
                     try go_wp2
                     replace HO_8 := Aside0.mk (Kd.R_drew HO_8.out)
                     replace BK486 := Aside0.mk (blk_drew BK486.out)
                     replace HB := Aside0.mk (below_drew1 HB.out)
                     have p494 : 0 ≤ (x55_4 : Int) := of_decide_eq_true tW_
                     have q494 : x55_4 < (x8_4.length : Int) := of_decide_eq_true tW_
                     obtain ⟨ad494, e494, hx494_0⟩ := Kd.at_int (Kd.R_reads' HO_8.out).2.2 x55_4 p494 q494
                     cases e494
                     replace p494 := eq_true p494
                     replace q494 := eq_true q494
                     have p495 : 0 ≤ ((ji32) : Int) := of_decide_eq_true tW_
                     have q495 : (ji32) < (x8_4.length : Int) := of_decide_eq_true tW_
                     obtain ⟨ad495, e495, hx495_0⟩ := Kd.at_int (Kd.R_reads' HO_8.out).2.2 (ji32) p495 q495
                     obtain rfl : ad494 = ad495 := (by injection e495)
                     replace p495 := eq_true p495
                     replace q495 := eq_true q495
                     have p36 : 0 ≤ (x55_4 : Int) := of_decide_eq_true tW_
                     have q36 : (x55_4 : Int) < ((x8_4.length : Int) : Int) := of_decide_eq_true tW_
                     obtain ⟨go36, co36, eo36, gb36, gl36, cl36, HG36⟩ := Kd.R_form HO_8.out (by omega)
                     (first | cases eo36 | (injection eo36 with ea_ en_ ec_; (first | subst ea_ | (injection ea_ with ea_; subst ea_)); subst ec_; clear en_))
                     have GB36 := Aside0.mk gb36
                     have GG36 := Aside0.mk HG36
                     clear gb36 gl36 HG36
                     (first | simp only [add_plain] at hx494_0 | skip)
                     (first | simp only [add_plain] at hx495_0 | skip)
                     obtain ⟨hx36_0, hf36_0⟩ := Kd.R_celln 0 HO_8.out (x55_4 : Int) p36 q36
                     replace p36 := eq_true p36
                     replace q36 := eq_true q36
                     have HP38 := Kd.R_putn HO_8.out (x55_4 : Int) ji35
                     rw [← Ny496.out] at HP38
                     have HQ38 := Aside0.mk HP38
                     clear HP38
                     refine start_ (n := 15) (S := fun w' => w'.cell? ⟨go36, (x55_4).toNat, none⟩ = some (.int .i64 (rd x8_4 x55_4)) ∧ w'.cell? ⟨go36, ((ji32)).toNat, none⟩ = some (.int .i64 (rd x8_4 (ji32)))) (ds := [14]) #[false, false, false, false, false, false, false, false, false, false, false, false, false, false, false] (by kernel_rfl) rfl rfl ⟨hx494_0, hx495_0⟩ (fun hHeld => ?_); refine with_tabW hinterlandref02_Settle.tab15 hinterlandref02_Settle.bits15 (fun HT_ HW_ => ?_)
                     generalize wr.drew = w37 at HO_8 BK486 HB GG36 HQ38 hf36_0 hx36_0 hx494_0 hx495_0 hHeld ⊢
                     refine pure_ (i := 0) (N := some 63) (v := ?_) (a' := ?_) (bA 1 15) rfl rfl (any_of HT_.out (by kernel_rfl)) (fun _ _ _ h => h) (Or.inl ⟨by rfl, ?_⟩) ?_ ?_; rotate_left; (intro w'; go_simp; with_reducible rfl); rotate_left; (simp only [Act.put, sI_, s0_, sS_, i64_w, i32_w]; rfl)
                     refine pure_ (i := 1) (N := some 64) (v := ?_) (a' := ?_) (bA 2 15) rfl rfl (any_of HT_.out (by kernel_rfl)) (fun _ _ _ h => h) (Or.inl ⟨by rfl, ?_⟩) ?_ ?_; rotate_left; (intro w'; go_simp; with_reducible rfl); rotate_left; (simp only [Act.put, sI_, s0_, sS_, i64_w, i32_w]; rfl)
                     refine pure_ (i := 2) (N := some 65) (v := ?_) (a' := ?_) (bA 3 15) rfl rfl (any_of HT_.out (by kernel_rfl)) (fun _ _ _ h => h) (Or.inl ⟨by rfl, ?_⟩) ?_ ?_; rotate_left; (intro w'; go_simp; with_reducible rfl); rotate_left; (simp only [Act.put, sI_, s0_, sS_, i64_w, i32_w]; rfl)
                     refine pure_ (i := 3) (N := some 66) (v := ?_) (a' := ?_) (bA 4 15) rfl rfl (any_of HT_.out (by kernel_rfl)) (fun _ _ _ h => h) (Or.inl ⟨by rfl, ?_⟩) ?_ ?_; rotate_left; (intro w'; go_simp; with_reducible rfl); rotate_left; (simp only [Act.put, sI_, s0_, sS_, i64_w, i32_w]; rfl)
                     refine pure_ (i := 4) (N := some 67) (v := ?_) (a' := ?_) (bA 5 15) rfl rfl (any_of HT_.out (by kernel_rfl)) (fun _ _ _ h => h) (Or.inl ⟨by rfl, ?_⟩) ?_ ?_; rotate_left; (intro w'; go_simp; with_reducible rfl); rotate_left; (simp only [Act.put, sI_, s0_, sS_, i64_w, i32_w]; rfl)
                     refine pure_ (i := 6) (N := some 69) (v := ?_) (a' := ?_) #[true, true, true, true, true, false, true, false, false, false, false, false, false, false, false] rfl rfl (any_of HT_.out (by kernel_rfl)) (fun _ _ _ h => h) (Or.inl ⟨by rfl, ?_⟩) ?_ ?_; rotate_left; (intro w'; go_simp; with_reducible rfl); rotate_left; (simp only [Act.put, sI_, s0_, sS_, i64_w, i32_w]; rfl)
                     refine pure_ (i := 7) (N := some 70) (v := ?_) (a' := ?_) #[true, true, true, true, true, false, true, true, false, false, false, false, false, false, false] rfl rfl (any_of HT_.out (by kernel_rfl)) (fun _ _ _ h => h) (Or.inl ⟨by rfl, ?_⟩) ?_ ?_; rotate_left; (intro w'; go_simp; with_reducible rfl); rotate_left; (simp only [Act.put, sI_, s0_, sS_, i64_w, i32_w]; rfl)
                     refine pure_ (i := 8) (N := some 71) (v := ?_) (a' := ?_) #[true, true, true, true, true, false, true, true, true, false, false, false, false, false, false] rfl rfl (any_of HT_.out (by kernel_rfl)) (fun _ _ _ h => h) (Or.inl ⟨by rfl, ?_⟩) ?_ ?_; rotate_left; (intro w'; go_simp; with_reducible rfl); rotate_left; (simp only [Act.put, sI_, s0_, sS_, i64_w, i32_w]; rfl)
                     refine pure_ (i := 9) (N := some 72) (v := ?_) (a' := ?_) #[true, true, true, true, true, false, true, true, true, true, false, false, false, false, false] rfl rfl (any_of HT_.out (by kernel_rfl)) (fun _ _ _ h => h) (Or.inl ⟨by rfl, ?_⟩) ?_ ?_; rotate_left; (intro w'; go_simp; with_reducible rfl); rotate_left; (simp only [Act.put, sI_, s0_, sS_, i64_w, i32_w]; rfl)
                     refine take_ (i := 5) (N := some 68) (v := ?_) (a' := ?_) (bA 10 15) rfl rfl (take_ofW HT_.out HW_.out (by kernel_rfl)) (fun _ _ _ h => h) (Or.inl ⟨by rfl, ?_⟩) hHeld ?_ ?_; rotate_left; (rintro w' ⟨s0, s1⟩; go_simp; with_reducible rfl); rotate_left; (simp only [Act.put, sI_, s0_, sS_, i64_w, i32_w]; rfl)
                     refine take_ (i := 10) (N := some 73) (v := ?_) (a' := ?_) (bA 11 15) rfl rfl (take_ofW HT_.out HW_.out (by kernel_rfl)) (fun _ _ _ h => h) (Or.inl ⟨by rfl, ?_⟩) hHeld ?_ ?_; rotate_left; (rintro w' ⟨s0, s1⟩; go_simp; with_reducible rfl); rotate_left; (simp only [Act.put, sI_, s0_, sS_, i64_w, i32_w]; rfl)
                     refine pure_ (i := 11) (N := some 74) (v := ?_) (a' := ?_) (bA 12 15) rfl rfl (any_of HT_.out (by kernel_rfl)) (fun _ _ _ h => h) (Or.inl ⟨by rfl, ?_⟩) ?_ ?_; rotate_left; (intro w'; go_simp; with_reducible rfl); rotate_left; (simp only [Act.put, sI_, s0_, sS_, i64_w, i32_w]; rfl)
                     refine pure_ (i := 12) (N := some 75) (v := ?_) (a' := ?_) (bA 13 15) rfl rfl (any_of HT_.out (by kernel_rfl)) (fun _ _ _ h => h) (Or.inl ⟨by rfl, ?_⟩) ?_ ?_; rotate_left; (intro w'; go_simp; with_reducible rfl); rotate_left; (simp only [Act.put, sI_, s0_, sS_, i64_w, i32_w]; rfl)
                     refine pure_ (i := 13) (N := some 76) (v := ?_) (a' := ?_) (bA 14 15) rfl rfl (any_of HT_.out (by kernel_rfl)) (fun _ _ _ h => h) (Or.inl ⟨by rfl, ?_⟩) ?_ ?_; rotate_left; (intro w'; go_simp; with_reducible rfl); rotate_left; (simp only [Act.put, sI_, s0_, sS_, i64_w, i32_w]; rfl)
                     refine last_ (i := 14) (N := none) #[true, true, true, true, true, true, true, true, true, true, true, true, true, true, true] rfl rfl (one_of HT_.out (by kernel_rfl)) (by decide) (fun K hK => ?_)
                     refine skip_ (w1 := ?_) (by rfl) rfl ?_ ?_
                     rotate_left
                     ·go_simp
                      rfl
                     refine hK.out _ _ ?_
                     clear hK K
                     refine done_ (done_of HT_.out (by kernel_rfl)) ?_
                     try go_wp2
                     (try simp only [← hl8_4])
                     go_roundg k4
                     case measure => have := HJ3.out; have := HK2.out; have := HK3.out; have := HK4.out; omega
                     case rel => exact ⟨(y496), (wrap64 (x55_4 + 1)), tS_, H', ⟨by have := HJ3.out; have := HK2.out; have := HK3.out; have := HK4.out; omega⟩, ⟨by (try simp only [hl8_4]); (with_reducible repeat (first | apply Kd.R_alloc | apply Kd.R_drewN | apply Kd.R_drew)); exact HQ38.out⟩, ⟨by (try simp only [hl8_4]); (with_reducible repeat (first | refine blk_drewN ?_ _ | refine blk_drew ?_ | refine blk_alloc ?_ _)); refine blk_far ?_ (by have h_ := Kd.R_ne HO_8.out BK486.out (by decide); intro e_; exact h_ (by rw [e_]; rfl)) _; (with_reducible repeat (first | refine blk_drewN ?_ _ | refine blk_drew ?_ | refine blk_alloc ?_ _)); exact BK486.out⟩, ⟨dL2_ HB GB36 GE486⟩⟩
                    ·rw [if_neg c34] at H
                     exact absurd H (by simp)
                   ·rw [if_neg c33] at H
                    exact absurd H (by simp)
                  ·rw [if_neg c31] at H
                   exact absurd H (by simp)
                 ·rw [if_neg c30] at H
                  exact absurd H (by simp)
                ·rw [if_neg c29] at H
                 have c29b0 : decide (0 < (Int.tmod x55_4 (wrap64 (a0 + 1)))) = false := decide_eq_false c29
                 clear c29
                 (try (have c29y0 := c29b0; simp only [hl8_4] at c29y0))
                 (try (have c29y1 := c29b1; simp only [hl8_4] at c29y1))
                 (try (have c29y2 := c29b2; simp only [hl8_4] at c29y2))
                 have H' := Aside0.mk H
                 clear H
                 go_wp2
                 (try simp only [← hl8_4])
                 go_roundg k4
                 case measure => have := HJ3.out; have := HK2.out; have := HK3.out; have := HK4.out; omega
                 case rel => exact ⟨(x8_4), (wrap64 (x55_4 + 1)), tS_, H', ⟨by have := HJ3.out; have := HK2.out; have := HK3.out; have := HK4.out; omega⟩, ⟨by (try simp only [hl8_4]); (with_reducible repeat (first | apply Kd.R_alloc | apply Kd.R_drewN | apply Kd.R_drew)); exact HO_8.out⟩, ⟨by (try simp only [hl8_4]); (with_reducible repeat (first | refine blk_drewN ?_ _ | refine blk_drew ?_ | refine blk_alloc ?_ _)); exact BK486.out⟩, ⟨dL1_ HB GE486⟩⟩
              ·rw [if_neg c27] at H
               have c27b0 : decide (x55_4 < (x8_3.length : Int)) = false := decide_eq_false c27
               clear c27
               (try (have c27y0 := c27b0; simp only [hl8_4] at c27y0))
               (try (have c27y1 := c27b1; simp only [hl8_4] at c27y1))
               (try (have c27y2 := c27b2; simp only [hl8_4] at c27y2))
               have H' := Aside0.mk H
               clear H
               go_wp2
               go_loopg [12] k4 (fun kq v12 w' => ∃ (x8_5 : List Int) (x12_5 : Int), v12 = .int .i64 x12_5 ∧ Aside0 (hinterlandref02_Settle.l3 kq a0 a1 x8_5 x12_5 x51_3 = some (r1, r2, r3, r4)) ∧ Aside0 (kq ≤ k4) ∧ Aside0 (Kd.R (Kd.int .i64) 3 w' w.heap.size (fun _ => True) (.slice Ao26 x8_4.length co26) x8_5) ∧ Aside0 (w'.heap[gb486]? = some (.cells #[.int .i64 0, .int .i64 0, (.slice none 0 0)] 24 (0, 0))) ∧ Aside0 (Below w.heap.size w w'))
               case atStart => exact ⟨(x8_4), (wrap64 ((x8_4.length : Int) - 1)), tS_, H', ⟨Nat.le_refl _⟩, ⟨by (try simp only [hl8_4]); (with_reducible repeat (first | apply Kd.R_alloc | apply Kd.R_drewN | apply Kd.R_drew)); exact HO_8.out⟩, ⟨by (try simp only [hl8_4]); (with_reducible repeat (first | refine blk_drewN ?_ _ | refine blk_drew ?_ | refine blk_alloc ?_ _)); exact BK486.out⟩, ⟨dL1_ HB GE486⟩⟩
               case round =>
                clear H'
                try clear c2
                try clear c10
                try clear c12
                try clear c12b0
                try clear c12b1
                try clear c13
                try clear c13b0
                try clear c13b1
                try clear c16
                try clear c16b0
                try clear c17
                try clear c18
                try clear c21
                try clear c25
                try clear c25b0
                try clear c27
                try clear c27b0
                try clear c27b1
                try clear c27b2
                try clear c28
                try clear c28b2
                try clear c29
                try clear c29b1
                try clear c29b2
                try clear c30
                try clear c30b1
                try clear c30b2
                try clear c31
                try clear c31b1
                try clear c31b2
                try clear c33
                try clear c33b1
                try clear c33b2
                try clear c34
                try clear c34b1
                try clear c34b2
                obtain ⟨x8_5, x12_5, rfl, HA, HK5, HO_8, BK486, HB⟩ := hrel
                have hl8_5 := (Kd.R_reads' HO_8.out).1
                rw [hl8_5] at HO_8
                (try simp only [hl8_5])
                (try simp only [hl8_5] at BK486)
                cases gk with
                | zero => exact absurd HA.out (by simp [hinterlandref02_Settle.l3])
                | succ k5 =>
                 have H := HA.out
                 clear HA
                 simp only [hinterlandref02_Settle.l3] at H
                 by_cases c39 : x12_5 ≥ 0
                 ·rw [if_pos c39] at H
                  have c39b0 : decide (0 ≤ x12_5) = true := decide_eq_true c39
                  clear c39
                  (try (have c39y0 := c39b0; simp only [hl8_4, hl8_5] at c39y0))
                  (try (have c39y1 := c39b1; simp only [hl8_4, hl8_5] at c39y1))
                  (try (have c39y2 := c39b2; simp only [hl8_4, hl8_5] at c39y2))
                  by_cases c40 : (wrap64 (a0 + 1)) = 0
                  ·rw [if_pos c40] at H
                   exact absurd H (by simp)
                  ·rw [if_neg c40] at H
                   have c40b0 : ((wrap64 (a0 + 1)) == 0) = false := beq_eq_false_iff_ne.mpr c40
                   have c40b1 : ((wrap64 (a0 + 1)) != 0) = true := bne_iff_ne.mpr c40
                   (try (have c40y0 := c40b0; simp only [hl8_4, hl8_5] at c40y0))
                   (try (have c40y1 := c40b1; simp only [hl8_4, hl8_5] at c40y1))
                   (try (have c40y2 := c40b2; simp only [hl8_4, hl8_5] at c40y2))
                   by_cases c41 : (Int.tmod x12_5 (wrap64 (a0 + 1))) < a0
                   ·rw [if_pos c41] at H
                    have c41b0 : decide ((Int.tmod x12_5 (wrap64 (a0 + 1))) < a0) = true := decide_eq_true c41
                    clear c41
                    (try (have c41y0 := c41b0; simp only [hl8_4, hl8_5] at c41y0))
                    (try (have c41y1 := c41b1; simp only [hl8_4, hl8_5] at c41y1))
                    (try (have c41y2 := c41b2; simp only [hl8_4, hl8_5] at c41y2))
                    by_cases c42 : 0 ≤ x12_5
                    ·rw [if_pos c42] at H
                     have c42b0 : decide (0 ≤ x12_5) = true := decide_eq_true c42
                     clear c42
                     (try (have c42y0 := c42b0; simp only [hl8_4, hl8_5] at c42y0))
                     (try (have c42y1 := c42b1; simp only [hl8_4, hl8_5] at c42y1))
                     (try (have c42y2 := c42b2; simp only [hl8_4, hl8_5] at c42y2))
                     by_cases c43 : x12_5 < (x8_5.length : Int)
                     ·rw [if_pos c43] at H
                      have c43b0 : decide (x12_5 < (x8_5.length : Int)) = true := decide_eq_true c43
                      clear c43
                      (try (have c43y0 := c43b0; simp only [hl8_4, hl8_5] at c43y0))
                      (try (have c43y1 := c43b1; simp only [hl8_4, hl8_5] at c43y1))
                      (try (have c43y2 := c43b2; simp only [hl8_4, hl8_5] at c43y2))
                      obtain ⟨ji44, hji44⟩ : ∃ j_ : Int, (wrap64 (x12_5 + 1)) = j_ := ⟨_, rfl⟩
                      replace H : (if 0 ≤ (ji44) then (if (ji44) < (x8_5.length : Int) then (hinterlandref02_Settle.l3 k5 a0 a1 (x8_5.set (x12_5 : Int).toNat (mn (rd x8_5 x12_5) (wrap64 ((rd x8_5 (ji44)) + 1)))) (wrap64 (x12_5 - 1)) x51_3) else (none)) else (none)) = some (r1, r2, r3, r4) := by first | (rw [hji44] at H; exact H) | (simp only [hji44] at H ⊢; exact H)
                      have hji44w : (IntKind.i64.wrap (x12_5 + 1)) = ji44 := (i64_w _).trans hji44
                      by_cases c45 : 0 ≤ (ji44)
                      ·rw [if_pos c45] at H
                       have c45b0 : decide (0 ≤ (ji44)) = true := decide_eq_true c45
                       clear c45
                       (try (have c45y0 := c45b0; simp only [hl8_4, hl8_5] at c45y0))
                       (try (have c45y1 := c45b1; simp only [hl8_4, hl8_5] at c45y1))
                       (try (have c45y2 := c45b2; simp only [hl8_4, hl8_5] at c45y2))
                       by_cases c46 : (ji44) < (x8_5.length : Int)
                       ·rw [if_pos c46] at H
                        have c46b0 : decide ((ji44) < (x8_5.length : Int)) = true := decide_eq_true c46
                        clear c46
                        (try (have c46y0 := c46b0; simp only [hl8_4, hl8_5] at c46y0))
                        (try (have c46y1 := c46b1; simp only [hl8_4, hl8_5] at c46y1))
                        (try (have c46y2 := c46b2; simp only [hl8_4, hl8_5] at c46y2))
                        obtain ⟨ji47, hji47⟩ : ∃ j_ : Int, (mn (rd x8_5 x12_5) (wrap64 ((rd x8_5 (ji44)) + 1))) = j_ := ⟨_, rfl⟩
                        replace H : (hinterlandref02_Settle.l3 k5 a0 a1 (x8_5.set (x12_5 : Int).toNat (ji47)) (wrap64 (x12_5 - 1)) x51_3) = some (r1, r2, r3, r4) := by first | (rw [hji47] at H; exact H) | (simp only [hji47] at H ⊢; exact H)
                        have hji47_ : (if (wrap64 ((rd x8_5 (ji44)) + 1)) < (rd x8_5 x12_5) then (wrap64 ((rd x8_5 (ji44)) + 1)) else (rd x8_5 x12_5)) = ji47 := hji47
                        obtain ⟨y499, hy499⟩ : ∃ y_ : List Int, y_ = (x8_5.set (x12_5 : Int).toNat (ji47)) := ⟨_, rfl⟩
                        replace H : (hinterlandref02_Settle.l3 k5 a0 a1 y499 (wrap64 (x12_5 - 1)) x51_3) = some (r1, r2, r3, r4) := by first | (rw [hy499]; with_reducible exact H) | (have H2_ := (Option.bind_some _ _).symm.trans H; rw [hy499]; with_reducible exact H2_) | (have H2_ := (Option.bind_some _ _).symm.trans H; with_reducible exact H2_) | with_reducible exact H | (rw [hy499]; exact H) | exact H
                        have Ny499 := Aside0.mk hy499
                        clear hy499
                        have H' := Aside0.mk H
                        clear H
                        try go_wp2
                        replace HO_8 := Aside0.mk (Kd.R_drew HO_8.out)
                        replace BK486 := Aside0.mk (blk_drew BK486.out)
                        replace HB := Aside0.mk (below_drew1 HB.out)
                        have p497 : 0 ≤ (x12_5 : Int) := of_decide_eq_true tW_
                        have q497 : x12_5 < (x8_5.length : Int) := of_decide_eq_true tW_
                        obtain ⟨ad497, e497, hx497_0⟩ := Kd.at_int (Kd.R_reads' HO_8.out).2.2 x12_5 p497 q497
                        cases e497
                        replace p497 := eq_true p497
                        replace q497 := eq_true q497
                        have p498 : 0 ≤ ((ji44) : Int) := of_decide_eq_true tW_
                        have q498 : (ji44) < (x8_5.length : Int) := of_decide_eq_true tW_
                        obtain ⟨ad498, e498, hx498_0⟩ := Kd.at_int (Kd.R_reads' HO_8.out).2.2 (ji44) p498 q498
                        obtain rfl : ad497 = ad498 := (by injection e498)
                        replace p498 := eq_true p498
                        replace q498 := eq_true q498
                        have p48 : 0 ≤ (x12_5 : Int) := of_decide_eq_true tW_
                        have q48 : (x12_5 : Int) < ((x8_5.length : Int) : Int) := of_decide_eq_true tW_
                        obtain ⟨go48, co48, eo48, gb48, gl48, cl48, HG48⟩ := Kd.R_form HO_8.out (by omega)
                        (first | cases eo48 | (injection eo48 with ea_ en_ ec_; (first | subst ea_ | (injection ea_ with ea_; subst ea_)); subst ec_; clear en_))
                        have GB48 := Aside0.mk gb48
                        have GG48 := Aside0.mk HG48
                        clear gb48 gl48 HG48
                        (first | simp only [add_plain] at hx497_0 | skip)
                        (first | simp only [add_plain] at hx498_0 | skip)
                        obtain ⟨hx48_0, hf48_0⟩ := Kd.R_celln 0 HO_8.out (x12_5 : Int) p48 q48
                        replace p48 := eq_true p48
                        replace q48 := eq_true q48
                        have HP50 := Kd.R_putn HO_8.out (x12_5 : Int) ji47
                        rw [← Ny499.out] at HP50
                        have HQ50 := Aside0.mk HP50
                        clear HP50
                        refine start_ (n := 15) (S := fun w' => w'.cell? ⟨go48, (x12_5).toNat, none⟩ = some (.int .i64 (rd x8_5 x12_5)) ∧ w'.cell? ⟨go48, ((ji44)).toNat, none⟩ = some (.int .i64 (rd x8_5 (ji44)))) (ds := [14]) #[false, false, false, false, false, false, false, false, false, false, false, false, false, false, false] (by kernel_rfl) rfl rfl ⟨hx497_0, hx498_0⟩ (fun hHeld => ?_); refine with_tabW hinterlandref02_Settle.tab21 hinterlandref02_Settle.bits21 (fun HT_ HW_ => ?_)
                        generalize wr.drew = w49 at HO_8 BK486 HB GG48 HQ50 hf48_0 hx48_0 hx497_0 hx498_0 hHeld ⊢
                        refine pure_ (i := 0) (N := some 91) (v := ?_) (a' := ?_) (bA 1 15) rfl rfl (any_of HT_.out (by kernel_rfl)) (fun _ _ _ h => h) (Or.inl ⟨by rfl, ?_⟩) ?_ ?_; rotate_left; (intro w'; go_simp; with_reducible rfl); rotate_left; (simp only [Act.put, sI_, s0_, sS_, i64_w, i32_w]; rfl)
                        refine pure_ (i := 1) (N := some 92) (v := ?_) (a' := ?_) (bA 2 15) rfl rfl (any_of HT_.out (by kernel_rfl)) (fun _ _ _ h => h) (Or.inl ⟨by rfl, ?_⟩) ?_ ?_; rotate_left; (intro w'; go_simp; with_reducible rfl); rotate_left; (simp only [Act.put, sI_, s0_, sS_, i64_w, i32_w]; rfl)
                        refine pure_ (i := 2) (N := some 93) (v := ?_) (a' := ?_) (bA 3 15) rfl rfl (any_of HT_.out (by kernel_rfl)) (fun _ _ _ h => h) (Or.inl ⟨by rfl, ?_⟩) ?_ ?_; rotate_left; (intro w'; go_simp; with_reducible rfl); rotate_left; (simp only [Act.put, sI_, s0_, sS_, i64_w, i32_w]; rfl)
                        refine pure_ (i := 3) (N := some 94) (v := ?_) (a' := ?_) (bA 4 15) rfl rfl (any_of HT_.out (by kernel_rfl)) (fun _ _ _ h => h) (Or.inl ⟨by rfl, ?_⟩) ?_ ?_; rotate_left; (intro w'; go_simp; with_reducible rfl); rotate_left; (simp only [Act.put, sI_, s0_, sS_, i64_w, i32_w]; rfl)
                        refine pure_ (i := 4) (N := some 95) (v := ?_) (a' := ?_) (bA 5 15) rfl rfl (any_of HT_.out (by kernel_rfl)) (fun _ _ _ h => h) (Or.inl ⟨by rfl, ?_⟩) ?_ ?_; rotate_left; (intro w'; go_simp; with_reducible rfl); rotate_left; (simp only [Act.put, sI_, s0_, sS_, i64_w, i32_w]; rfl)
                        refine pure_ (i := 6) (N := some 97) (v := ?_) (a' := ?_) #[true, true, true, true, true, false, true, false, false, false, false, false, false, false, false] rfl rfl (any_of HT_.out (by kernel_rfl)) (fun _ _ _ h => h) (Or.inl ⟨by rfl, ?_⟩) ?_ ?_; rotate_left; (intro w'; go_simp; with_reducible rfl); rotate_left; (simp only [Act.put, sI_, s0_, sS_, i64_w, i32_w]; rfl)
                        refine pure_ (i := 7) (N := some 98) (v := ?_) (a' := ?_) #[true, true, true, true, true, false, true, true, false, false, false, false, false, false, false] rfl rfl (any_of HT_.out (by kernel_rfl)) (fun _ _ _ h => h) (Or.inl ⟨by rfl, ?_⟩) ?_ ?_; rotate_left; (intro w'; go_simp; with_reducible rfl); rotate_left; (simp only [Act.put, sI_, s0_, sS_, i64_w, i32_w]; rfl)
                        refine pure_ (i := 8) (N := some 99) (v := ?_) (a' := ?_) #[true, true, true, true, true, false, true, true, true, false, false, false, false, false, false] rfl rfl (any_of HT_.out (by kernel_rfl)) (fun _ _ _ h => h) (Or.inl ⟨by rfl, ?_⟩) ?_ ?_; rotate_left; (intro w'; go_simp; with_reducible rfl); rotate_left; (simp only [Act.put, sI_, s0_, sS_, i64_w, i32_w]; rfl)
                        refine pure_ (i := 9) (N := some 100) (v := ?_) (a' := ?_) #[true, true, true, true, true, false, true, true, true, true, false, false, false, false, false] rfl rfl (any_of HT_.out (by kernel_rfl)) (fun _ _ _ h => h) (Or.inl ⟨by rfl, ?_⟩) ?_ ?_; rotate_left; (intro w'; go_simp; with_reducible rfl); rotate_left; (simp only [Act.put, sI_, s0_, sS_, i64_w, i32_w]; rfl)
                        refine take_ (i := 5) (N := some 96) (v := ?_) (a' := ?_) (bA 10 15) rfl rfl (take_ofW HT_.out HW_.out (by kernel_rfl)) (fun _ _ _ h => h) (Or.inl ⟨by rfl, ?_⟩) hHeld ?_ ?_; rotate_left; (rintro w' ⟨s0, s1⟩; go_simp; with_reducible rfl); rotate_left; (simp only [Act.put, sI_, s0_, sS_, i64_w, i32_w]; rfl)
                        refine take_ (i := 10) (N := some 101) (v := ?_) (a' := ?_) (bA 11 15) rfl rfl (take_ofW HT_.out HW_.out (by kernel_rfl)) (fun _ _ _ h => h) (Or.inl ⟨by rfl, ?_⟩) hHeld ?_ ?_; rotate_left; (rintro w' ⟨s0, s1⟩; go_simp; with_reducible rfl); rotate_left; (simp only [Act.put, sI_, s0_, sS_, i64_w, i32_w]; rfl)
                        refine pure_ (i := 11) (N := some 102) (v := ?_) (a' := ?_) (bA 12 15) rfl rfl (any_of HT_.out (by kernel_rfl)) (fun _ _ _ h => h) (Or.inl ⟨by rfl, ?_⟩) ?_ ?_; rotate_left; (intro w'; go_simp; with_reducible rfl); rotate_left; (simp only [Act.put, sI_, s0_, sS_, i64_w, i32_w]; rfl)
                        refine pure_ (i := 12) (N := some 103) (v := ?_) (a' := ?_) (bA 13 15) rfl rfl (any_of HT_.out (by kernel_rfl)) (fun _ _ _ h => h) (Or.inl ⟨by rfl, ?_⟩) ?_ ?_; rotate_left; (intro w'; go_simp; with_reducible rfl); rotate_left; (simp only [Act.put, sI_, s0_, sS_, i64_w, i32_w]; rfl)
                        refine pure_ (i := 13) (N := some 104) (v := ?_) (a' := ?_) (bA 14 15) rfl rfl (any_of HT_.out (by kernel_rfl)) (fun _ _ _ h => h) (Or.inl ⟨by rfl, ?_⟩) ?_ ?_; rotate_left; (intro w'; go_simp; with_reducible rfl); rotate_left; (simp only [Act.put, sI_, s0_, sS_, i64_w, i32_w]; rfl)
                        refine last_ (i := 14) (N := none) #[true, true, true, true, true, true, true, true, true, true, true, true, true, true, true] rfl rfl (one_of HT_.out (by kernel_rfl)) (by decide) (fun K hK => ?_)
                        refine skip_ (w1 := ?_) (by rfl) rfl ?_ ?_
                        rotate_left
                        ·go_simp
                         rfl
                        refine hK.out _ _ ?_
                        clear hK K
                        refine done_ (done_of HT_.out (by kernel_rfl)) ?_
                        try go_wp2
                        (try simp only [← hl8_5])
                        go_roundg k5
                        case measure => have := HJ3.out; have := HK2.out; have := HK3.out; have := HK4.out; have := HK5.out; omega
                        case rel => exact ⟨(y499), (wrap64 (x12_5 - 1)), tS_, H', ⟨by have := HJ3.out; have := HK2.out; have := HK3.out; have := HK4.out; have := HK5.out; omega⟩, ⟨by (try simp only [hl8_4]); (try simp only [hl8_5]); (with_reducible repeat (first | apply Kd.R_alloc | apply Kd.R_drewN | apply Kd.R_drew)); exact HQ50.out⟩, ⟨by (try simp only [hl8_4]); (try simp only [hl8_5]); (with_reducible repeat (first | refine blk_drewN ?_ _ | refine blk_drew ?_ | refine blk_alloc ?_ _)); refine blk_far ?_ (by have h_ := Kd.R_ne HO_8.out BK486.out (by decide); intro e_; exact h_ (by rw [e_]; rfl)) _; (with_reducible repeat (first | refine blk_drewN ?_ _ | refine blk_drew ?_ | refine blk_alloc ?_ _)); exact BK486.out⟩, ⟨dL2_ HB GB48 GE486⟩⟩
                       ·rw [if_neg c46] at H
                        exact absurd H (by simp)
                      ·rw [if_neg c45] at H
                       exact absurd H (by simp)
                     ·rw [if_neg c43] at H
                      exact absurd H (by simp)
                    ·rw [if_neg c42] at H
                     exact absurd H (by simp)
                   ·rw [if_neg c41] at H
                    have c41b0 : decide ((Int.tmod x12_5 (wrap64 (a0 + 1))) < a0) = false := decide_eq_false c41
                    clear c41
                    (try (have c41y0 := c41b0; simp only [hl8_4, hl8_5] at c41y0))
                    (try (have c41y1 := c41b1; simp only [hl8_4, hl8_5] at c41y1))
                    (try (have c41y2 := c41b2; simp only [hl8_4, hl8_5] at c41y2))
                    have H' := Aside0.mk H
                    clear H
                    go_wp2
                    (try simp only [← hl8_5])
                    go_roundg k5
                    case measure => have := HJ3.out; have := HK2.out; have := HK3.out; have := HK4.out; have := HK5.out; omega
                    case rel => exact ⟨(x8_5), (wrap64 (x12_5 - 1)), tS_, H', ⟨by have := HJ3.out; have := HK2.out; have := HK3.out; have := HK4.out; have := HK5.out; omega⟩, ⟨by (try simp only [hl8_4]); (try simp only [hl8_5]); (with_reducible repeat (first | apply Kd.R_alloc | apply Kd.R_drewN | apply Kd.R_drew)); exact HO_8.out⟩, ⟨by (try simp only [hl8_4]); (try simp only [hl8_5]); (with_reducible repeat (first | refine blk_drewN ?_ _ | refine blk_drew ?_ | refine blk_alloc ?_ _)); exact BK486.out⟩, ⟨dL1_ HB GE486⟩⟩
                 ·rw [if_neg c39] at H
                  have c39b0 : decide (0 ≤ x12_5) = false := decide_eq_false c39
                  clear c39
                  (try (have c39y0 := c39b0; simp only [hl8_4, hl8_5] at c39y0))
                  (try (have c39y1 := c39b1; simp only [hl8_4, hl8_5] at c39y1))
                  (try (have c39y2 := c39b2; simp only [hl8_4, hl8_5] at c39y2))
                  have H' := Aside0.mk H
                  clear H
                  go_wp2
                  go_loopg [13] k5 (fun kq v13 w' => ∃ (x8_6 : List Int) (x13_6 : Int), v13 = .int .i64 x13_6 ∧ Aside0 (hinterlandref02_Settle.l4 kq a0 a1 x8_6 x13_6 x51_3 = some (r1, r2, r3, r4)) ∧ Aside0 (kq ≤ k5) ∧ Aside0 (Kd.R (Kd.int .i64) 3 w' w.heap.size (fun _ => True) (.slice Ao26 x8_5.length co26) x8_6) ∧ Aside0 (w'.heap[gb486]? = some (.cells #[.int .i64 0, .int .i64 0, (.slice none 0 0)] 24 (0, 0))) ∧ Aside0 (Below w.heap.size w w'))
                  case atStart => exact ⟨(x8_5), (wrap64 (a0 + 1)), tS_, H', ⟨Nat.le_refl _⟩, ⟨by (try simp only [hl8_4]); (try simp only [hl8_5]); (with_reducible repeat (first | apply Kd.R_alloc | apply Kd.R_drewN | apply Kd.R_drew)); exact HO_8.out⟩, ⟨by (try simp only [hl8_4]); (try simp only [hl8_5]); (with_reducible repeat (first | refine blk_drewN ?_ _ | refine blk_drew ?_ | refine blk_alloc ?_ _)); exact BK486.out⟩, ⟨dL1_ HB GE486⟩⟩
                  case round =>
                   clear H'
                   try clear c2
                   try clear c10
                   try clear c12
                   try clear c12b0
                   try clear c12b1
                   try clear c13
                   try clear c13b0
                   try clear c13b1
                   try clear c16
                   try clear c16b0
                   try clear c17
                   try clear c18
                   try clear c21
                   try clear c25
                   try clear c25b0
                   try clear c27
                   try clear c27b0
                   try clear c27b1
                   try clear c27b2
                   try clear c28
                   try clear c28b2
                   try clear c29
                   try clear c29b1
                   try clear c29b2
                   try clear c30
                   try clear c30b1
                   try clear c30b2
                   try clear c31
                   try clear c31b1
                   try clear c31b2
                   try clear c33
                   try clear c33b1
                   try clear c33b2
                   try clear c34
                   try clear c34b1
                   try clear c34b2
                   try clear c39
                   try clear c39b0
                   try clear c39b1
                   try clear c39b2
                   try clear c40
                   try clear c40b2
                   try clear c41
                   try clear c41b1
                   try clear c41b2
                   try clear c42
                   try clear c42b1
                   try clear c42b2
                   try clear c43
                   try clear c43b1
                   try clear c43b2
                   try clear c45
                   try clear c45b1
                   try clear c45b2
                   try clear c46
                   try clear c46b1
                   try clear c46b2
                   obtain ⟨x8_6, x13_6, rfl, HA, HK6, HO_8, BK486, HB⟩ := hrel
                   have hl8_6 := (Kd.R_reads' HO_8.out).1
                   rw [hl8_6] at HO_8
                   (try simp only [hl8_6])
                   (try simp only [hl8_6] at BK486)
                   cases gk with
                   | zero => exact absurd HA.out (by simp [hinterlandref02_Settle.l4])
                   | succ k6 =>
                    have H := HA.out
                    clear HA
                    simp only [hinterlandref02_Settle.l4] at H
                    by_cases c51 : x13_6 < (x8_6.length : Int)
                    ·rw [if_pos c51] at H
                     have c51b0 : decide (x13_6 < (x8_6.length : Int)) = true := decide_eq_true c51
                     clear c51
                     (try (have c51y0 := c51b0; simp only [hl8_4, hl8_5, hl8_6] at c51y0))
                     (try (have c51y1 := c51b1; simp only [hl8_4, hl8_5, hl8_6] at c51y1))
                     (try (have c51y2 := c51b2; simp only [hl8_4, hl8_5, hl8_6] at c51y2))
                     by_cases c52 : 0 ≤ x13_6
                     ·rw [if_pos c52] at H
                      have c52b0 : decide (0 ≤ x13_6) = true := decide_eq_true c52
                      clear c52
                      (try (have c52y0 := c52b0; simp only [hl8_4, hl8_5, hl8_6] at c52y0))
                      (try (have c52y1 := c52b1; simp only [hl8_4, hl8_5, hl8_6] at c52y1))
                      (try (have c52y2 := c52b2; simp only [hl8_4, hl8_5, hl8_6] at c52y2))
                      obtain ⟨ji53, hji53⟩ : ∃ j_ : Int, (wrap64 ((wrap64 (x13_6 - a0)) - 1)) = j_ := ⟨_, rfl⟩
                      replace H : (if 0 ≤ (ji53) then (if (ji53) < (x8_6.length : Int) then (hinterlandref02_Settle.l4 k6 a0 a1 (x8_6.set (x13_6 : Int).toNat (mn (rd x8_6 x13_6) (wrap64 ((rd x8_6 (ji53)) + 1)))) (wrap64 (x13_6 + 1)) x51_3) else (none)) else (none)) = some (r1, r2, r3, r4) := by first | (rw [hji53] at H; exact H) | (simp only [hji53] at H ⊢; exact H)
                      have hji53w : (IntKind.i64.wrap ((wrap64 (x13_6 - a0)) - 1)) = ji53 := (i64_w _).trans hji53
                      by_cases c54 : 0 ≤ (ji53)
                      ·rw [if_pos c54] at H
                       have c54b0 : decide (0 ≤ (ji53)) = true := decide_eq_true c54
                       clear c54
                       (try (have c54y0 := c54b0; simp only [hl8_4, hl8_5, hl8_6] at c54y0))
                       (try (have c54y1 := c54b1; simp only [hl8_4, hl8_5, hl8_6] at c54y1))
                       (try (have c54y2 := c54b2; simp only [hl8_4, hl8_5, hl8_6] at c54y2))
                       by_cases c55 : (ji53) < (x8_6.length : Int)
                       ·rw [if_pos c55] at H
                        have c55b0 : decide ((ji53) < (x8_6.length : Int)) = true := decide_eq_true c55
                        clear c55
                        (try (have c55y0 := c55b0; simp only [hl8_4, hl8_5, hl8_6] at c55y0))
                        (try (have c55y1 := c55b1; simp only [hl8_4, hl8_5, hl8_6] at c55y1))
                        (try (have c55y2 := c55b2; simp only [hl8_4, hl8_5, hl8_6] at c55y2))
                        obtain ⟨ji56, hji56⟩ : ∃ j_ : Int, (mn (rd x8_6 x13_6) (wrap64 ((rd x8_6 (ji53)) + 1))) = j_ := ⟨_, rfl⟩
                        replace H : (hinterlandref02_Settle.l4 k6 a0 a1 (x8_6.set (x13_6 : Int).toNat (ji56)) (wrap64 (x13_6 + 1)) x51_3) = some (r1, r2, r3, r4) := by first | (rw [hji56] at H; exact H) | (simp only [hji56] at H ⊢; exact H)
                        have hji56_ : (if (wrap64 ((rd x8_6 (ji53)) + 1)) < (rd x8_6 x13_6) then (wrap64 ((rd x8_6 (ji53)) + 1)) else (rd x8_6 x13_6)) = ji56 := hji56
                        obtain ⟨y502, hy502⟩ : ∃ y_ : List Int, y_ = (x8_6.set (x13_6 : Int).toNat (ji56)) := ⟨_, rfl⟩
                        replace H : (hinterlandref02_Settle.l4 k6 a0 a1 y502 (wrap64 (x13_6 + 1)) x51_3) = some (r1, r2, r3, r4) := by first | (rw [hy502]; with_reducible exact H) | (have H2_ := (Option.bind_some _ _).symm.trans H; rw [hy502]; with_reducible exact H2_) | (have H2_ := (Option.bind_some _ _).symm.trans H; with_reducible exact H2_) | with_reducible exact H | (rw [hy502]; exact H) | exact H
                        have Ny502 := Aside0.mk hy502
                        clear hy502
                        have H' := Aside0.mk H
                        clear H
                        try go_wp2
                        replace HO_8 := Aside0.mk (Kd.R_drew HO_8.out)
                        replace BK486 := Aside0.mk (blk_drew BK486.out)
                        replace HB := Aside0.mk (below_drew1 HB.out)
                        have p500 : 0 ≤ (x13_6 : Int) := of_decide_eq_true tW_
                        have q500 : x13_6 < (x8_6.length : Int) := of_decide_eq_true tW_
                        obtain ⟨ad500, e500, hx500_0⟩ := Kd.at_int (Kd.R_reads' HO_8.out).2.2 x13_6 p500 q500
                        cases e500
                        replace p500 := eq_true p500
                        replace q500 := eq_true q500
                        have p501 : 0 ≤ ((ji53) : Int) := of_decide_eq_true tW_
                        have q501 : (ji53) < (x8_6.length : Int) := of_decide_eq_true tW_
                        obtain ⟨ad501, e501, hx501_0⟩ := Kd.at_int (Kd.R_reads' HO_8.out).2.2 (ji53) p501 q501
                        obtain rfl : ad500 = ad501 := (by injection e501)
                        replace p501 := eq_true p501
                        replace q501 := eq_true q501
                        have p57 : 0 ≤ (x13_6 : Int) := of_decide_eq_true tW_
                        have q57 : (x13_6 : Int) < ((x8_6.length : Int) : Int) := of_decide_eq_true tW_
                        obtain ⟨go57, co57, eo57, gb57, gl57, cl57, HG57⟩ := Kd.R_form HO_8.out (by omega)
                        (first | cases eo57 | (injection eo57 with ea_ en_ ec_; (first | subst ea_ | (injection ea_ with ea_; subst ea_)); subst ec_; clear en_))
                        have GB57 := Aside0.mk gb57
                        have GG57 := Aside0.mk HG57
                        clear gb57 gl57 HG57
                        (first | simp only [add_plain] at hx500_0 | skip)
                        (first | simp only [add_plain] at hx501_0 | skip)
                        obtain ⟨hx57_0, hf57_0⟩ := Kd.R_celln 0 HO_8.out (x13_6 : Int) p57 q57
                        replace p57 := eq_true p57
                        replace q57 := eq_true q57
                        have HP59 := Kd.R_putn HO_8.out (x13_6 : Int) ji56
                        rw [← Ny502.out] at HP59
                        have HQ59 := Aside0.mk HP59
                        clear HP59
                        refine start_ (n := 17) (S := fun w' => w'.cell? ⟨go57, (x13_6).toNat, none⟩ = some (.int .i64 (rd x8_6 x13_6)) ∧ w'.cell? ⟨go57, ((ji53)).toNat, none⟩ = some (.int .i64 (rd x8_6 (ji53)))) (ds := [16]) #[false, false, false, false, false, false, false, false, false, false, false, false, false, false, false, false, false] (by kernel_rfl) rfl rfl ⟨hx500_0, hx501_0⟩ (fun hHeld => ?_); refine with_tabW hinterlandref02_Settle.tab25 hinterlandref02_Settle.bits25 (fun HT_ HW_ => ?_)
                        generalize wr.drew = w58 at HO_8 BK486 HB GG57 HQ59 hf57_0 hx500_0 hx501_0 hx57_0 hHeld ⊢
                        refine pure_ (i := 0) (N := some 113) (v := ?_) (a' := ?_) (bA 1 17) rfl rfl (any_of HT_.out (by kernel_rfl)) (fun _ _ _ h => h) (Or.inl ⟨by rfl, ?_⟩) ?_ ?_; rotate_left; (intro w'; go_simp; with_reducible rfl); rotate_left; (simp only [Act.put, sI_, s0_, sS_, i64_w, i32_w]; rfl)
                        refine pure_ (i := 1) (N := some 114) (v := ?_) (a' := ?_) (bA 2 17) rfl rfl (any_of HT_.out (by kernel_rfl)) (fun _ _ _ h => h) (Or.inl ⟨by rfl, ?_⟩) ?_ ?_; rotate_left; (intro w'; go_simp; with_reducible rfl); rotate_left; (simp only [Act.put, sI_, s0_, sS_, i64_w, i32_w]; rfl)
                        refine pure_ (i := 2) (N := some 115) (v := ?_) (a' := ?_) (bA 3 17) rfl rfl (any_of HT_.out (by kernel_rfl)) (fun _ _ _ h => h) (Or.inl ⟨by rfl, ?_⟩) ?_ ?_; rotate_left; (intro w'; go_simp; with_reducible rfl); rotate_left; (simp only [Act.put, sI_, s0_, sS_, i64_w, i32_w]; rfl)
                        refine pure_ (i := 3) (N := some 116) (v := ?_) (a' := ?_) (bA 4 17) rfl rfl (any_of HT_.out (by kernel_rfl)) (fun _ _ _ h => h) (Or.inl ⟨by rfl, ?_⟩) ?_ ?_; rotate_left; (intro w'; go_simp; with_reducible rfl); rotate_left; (simp only [Act.put, sI_, s0_, sS_, i64_w, i32_w]; rfl)
                        refine pure_ (i := 4) (N := some 117) (v := ?_) (a' := ?_) (bA 5 17) rfl rfl (any_of HT_.out (by kernel_rfl)) (fun _ _ _ h => h) (Or.inl ⟨by rfl, ?_⟩) ?_ ?_; rotate_left; (intro w'; go_simp; with_reducible rfl); rotate_left; (simp only [Act.put, sI_, s0_, sS_, i64_w, i32_w]; rfl)
                        refine pure_ (i := 6) (N := some 119) (v := ?_) (a' := ?_) #[true, true, true, true, true, false, true, false, false, false, false, false, false, false, false, false, false] rfl rfl (any_of HT_.out (by kernel_rfl)) (fun _ _ _ h => h) (Or.inl ⟨by rfl, ?_⟩) ?_ ?_; rotate_left; (intro w'; go_simp; with_reducible rfl); rotate_left; (simp only [Act.put, sI_, s0_, sS_, i64_w, i32_w]; rfl)
                        refine pure_ (i := 7) (N := some 120) (v := ?_) (a' := ?_) #[true, true, true, true, true, false, true, true, false, false, false, false, false, false, false, false, false] rfl rfl (any_of HT_.out (by kernel_rfl)) (fun _ _ _ h => h) (Or.inl ⟨by rfl, ?_⟩) ?_ ?_; rotate_left; (intro w'; go_simp; with_reducible rfl); rotate_left; (simp only [Act.put, sI_, s0_, sS_, i64_w, i32_w]; rfl)
                        refine pure_ (i := 8) (N := some 121) (v := ?_) (a' := ?_) #[true, true, true, true, true, false, true, true, true, false, false, false, false, false, false, false, false] rfl rfl (any_of HT_.out (by kernel_rfl)) (fun _ _ _ h => h) (Or.inl ⟨by rfl, ?_⟩) ?_ ?_; rotate_left; (intro w'; go_simp; with_reducible rfl); rotate_left; (simp only [Act.put, sI_, s0_, sS_, i64_w, i32_w]; rfl)
                        refine pure_ (i := 9) (N := some 122) (v := ?_) (a' := ?_) #[true, true, true, true, true, false, true, true, true, true, false, false, false, false, false, false, false] rfl rfl (any_of HT_.out (by kernel_rfl)) (fun _ _ _ h => h) (Or.inl ⟨by rfl, ?_⟩) ?_ ?_; rotate_left; (intro w'; go_simp; with_reducible rfl); rotate_left; (simp only [Act.put, sI_, s0_, sS_, i64_w, i32_w]; rfl)
                        refine pure_ (i := 10) (N := some 123) (v := ?_) (a' := ?_) #[true, true, true, true, true, false, true, true, true, true, true, false, false, false, false, false, false] rfl rfl (any_of HT_.out (by kernel_rfl)) (fun _ _ _ h => h) (Or.inl ⟨by rfl, ?_⟩) ?_ ?_; rotate_left; (intro w'; go_simp; with_reducible rfl); rotate_left; (simp only [Act.put, sI_, s0_, sS_, i64_w, i32_w]; rfl)
                        refine pure_ (i := 11) (N := some 124) (v := ?_) (a' := ?_) #[true, true, true, true, true, false, true, true, true, true, true, true, false, false, false, false, false] rfl rfl (any_of HT_.out (by kernel_rfl)) (fun _ _ _ h => h) (Or.inl ⟨by rfl, ?_⟩) ?_ ?_; rotate_left; (intro w'; go_simp; with_reducible rfl); rotate_left; (simp only [Act.put, sI_, s0_, sS_, i64_w, i32_w]; rfl)
                        refine take_ (i := 5) (N := some 118) (v := ?_) (a' := ?_) (bA 12 17) rfl rfl (take_ofW HT_.out HW_.out (by kernel_rfl)) (fun _ _ _ h => h) (Or.inl ⟨by rfl, ?_⟩) hHeld ?_ ?_; rotate_left; (rintro w' ⟨s0, s1⟩; go_simp; with_reducible rfl); rotate_left; (simp only [Act.put, sI_, s0_, sS_, i64_w, i32_w]; rfl)
                        refine take_ (i := 12) (N := some 125) (v := ?_) (a' := ?_) (bA 13 17) rfl rfl (take_ofW HT_.out HW_.out (by kernel_rfl)) (fun _ _ _ h => h) (Or.inl ⟨by rfl, ?_⟩) hHeld ?_ ?_; rotate_left; (rintro w' ⟨s0, s1⟩; go_simp; with_reducible rfl); rotate_left; (simp only [Act.put, sI_, s0_, sS_, i64_w, i32_w]; rfl)
                        refine pure_ (i := 13) (N := some 126) (v := ?_) (a' := ?_) (bA 14 17) rfl rfl (any_of HT_.out (by kernel_rfl)) (fun _ _ _ h => h) (Or.inl ⟨by rfl, ?_⟩) ?_ ?_; rotate_left; (intro w'; go_simp; with_reducible rfl); rotate_left; (simp only [Act.put, sI_, s0_, sS_, i64_w, i32_w]; rfl)
                        refine pure_ (i := 14) (N := some 127) (v := ?_) (a' := ?_) (bA 15 17) rfl rfl (any_of HT_.out (by kernel_rfl)) (fun _ _ _ h => h) (Or.inl ⟨by rfl, ?_⟩) ?_ ?_; rotate_left; (intro w'; go_simp; with_reducible rfl); rotate_left; (simp only [Act.put, sI_, s0_, sS_, i64_w, i32_w]; rfl)
                        refine pure_ (i := 15) (N := some 128) (v := ?_) (a' := ?_) (bA 16 17) rfl rfl (any_of HT_.out (by kernel_rfl)) (fun _ _ _ h => h) (Or.inl ⟨by rfl, ?_⟩) ?_ ?_; rotate_left; (intro w'; go_simp; with_reducible rfl); rotate_left; (simp only [Act.put, sI_, s0_, sS_, i64_w, i32_w]; rfl)
                        refine last_ (i := 16) (N := none) #[true, true, true, true, true, true, true, true, true, true, true, true, true, true, true, true, true] rfl rfl (one_of HT_.out (by kernel_rfl)) (by decide) (fun K hK => ?_)
                        refine skip_ (w1 := ?_) (by rfl) rfl ?_ ?_
                        rotate_left
                        ·go_simp
                         rfl
                        refine hK.out _ _ ?_
                        clear hK K
                        refine done_ (done_of HT_.out (by kernel_rfl)) ?_
                        try go_wp2
                        (try simp only [← hl8_6])
                        go_roundg k6
                        case measure => have := HJ3.out; have := HK2.out; have := HK3.out; have := HK4.out; have := HK5.out; have := HK6.out; omega
                        case rel => exact ⟨(y502), (wrap64 (x13_6 + 1)), tS_, H', ⟨by have := HJ3.out; have := HK2.out; have := HK3.out; have := HK4.out; have := HK5.out; have := HK6.out; omega⟩, ⟨by (try simp only [hl8_4]); (try simp only [hl8_5]); (try simp only [hl8_6]); (with_reducible repeat (first | apply Kd.R_alloc | apply Kd.R_drewN | apply Kd.R_drew)); exact HQ59.out⟩, ⟨by (try simp only [hl8_4]); (try simp only [hl8_5]); (try simp only [hl8_6]); (with_reducible repeat (first | refine blk_drewN ?_ _ | refine blk_drew ?_ | refine blk_alloc ?_ _)); refine blk_far ?_ (by have h_ := Kd.R_ne HO_8.out BK486.out (by decide); intro e_; exact h_ (by rw [e_]; rfl)) _; (with_reducible repeat (first | refine blk_drewN ?_ _ | refine blk_drew ?_ | refine blk_alloc ?_ _)); exact BK486.out⟩, ⟨dL2_ HB GB57 GE486⟩⟩
                       ·rw [if_neg c55] at H
                        exact absurd H (by simp)
                      ·rw [if_neg c54] at H
                       exact absurd H (by simp)
                     ·rw [if_neg c52] at H
                      exact absurd H (by simp)
                    ·rw [if_neg c51] at H
                     have c51b0 : decide (x13_6 < (x8_6.length : Int)) = false := decide_eq_false c51
                     clear c51
                     (try (have c51y0 := c51b0; simp only [hl8_4, hl8_5, hl8_6] at c51y0))
                     (try (have c51y1 := c51b1; simp only [hl8_4, hl8_5, hl8_6] at c51y1))
                     (try (have c51y2 := c51b2; simp only [hl8_4, hl8_5, hl8_6] at c51y2))
                     have H' := Aside0.mk H
                     clear H
                     go_wp2
                     go_loopg [14] k6 (fun kq v14 w' => ∃ (x8_7 : List Int) (x14_7 : Int), v14 = .int .i64 x14_7 ∧ Aside0 (hinterlandref02_Settle.l5 kq a0 a1 x8_7 x14_7 x51_3 = some (r1, r2, r3, r4)) ∧ Aside0 (kq ≤ k6) ∧ Aside0 (Kd.R (Kd.int .i64) 3 w' w.heap.size (fun _ => True) (.slice Ao26 x8_6.length co26) x8_7) ∧ Aside0 (w'.heap[gb486]? = some (.cells #[.int .i64 0, .int .i64 0, (.slice none 0 0)] 24 (0, 0))) ∧ Aside0 (Below w.heap.size w w'))
                     case atStart => exact ⟨(x8_6), (wrap64 ((wrap64 ((x8_6.length : Int) - a0)) - 2)), tS_, H', ⟨Nat.le_refl _⟩, ⟨by (try simp only [hl8_4]); (try simp only [hl8_5]); (try simp only [hl8_6]); (with_reducible repeat (first | apply Kd.R_alloc | apply Kd.R_drewN | apply Kd.R_drew)); exact HO_8.out⟩, ⟨by (try simp only [hl8_4]); (try simp only [hl8_5]); (try simp only [hl8_6]); (with_reducible repeat (first | refine blk_drewN ?_ _ | refine blk_drew ?_ | refine blk_alloc ?_ _)); exact BK486.out⟩, ⟨dL1_ HB GE486⟩⟩
                     case round =>
                      clear H'
                      try clear c2
                      try clear c10
                      try clear c12
                      try clear c12b0
                      try clear c12b1
                      try clear c13
                      try clear c13b0
                      try clear c13b1
                      try clear c16
                      try clear c16b0
                      try clear c17
                      try clear c18
                      try clear c21
                      try clear c25
                      try clear c25b0
                      try clear c27
                      try clear c27b0
                      try clear c27b1
                      try clear c27b2
                      try clear c28
                      try clear c28b2
                      try clear c29
                      try clear c29b1
                      try clear c29b2
                      try clear c30
                      try clear c30b1
                      try clear c30b2
                      try clear c31
                      try clear c31b1
                      try clear c31b2
                      try clear c33
                      try clear c33b1
                      try clear c33b2
                      try clear c34
                      try clear c34b1
                      try clear c34b2
                      try clear c39
                      try clear c39b0
                      try clear c39b1
                      try clear c39b2
                      try clear c40
                      try clear c40b2
                      try clear c41
                      try clear c41b1
                      try clear c41b2
                      try clear c42
                      try clear c42b1
                      try clear c42b2
                      try clear c43
                      try clear c43b1
                      try clear c43b2
                      try clear c45
                      try clear c45b1
                      try clear c45b2
                      try clear c46
                      try clear c46b1
                      try clear c46b2
                      try clear c51
                      try clear c51b0
                      try clear c51b1
                      try clear c51b2
                      try clear c52
                      try clear c52b1
                      try clear c52b2
                      try clear c54
                      try clear c54b1
                      try clear c54b2
                      try clear c55
                      try clear c55b1
                      try clear c55b2
                      obtain ⟨x8_7, x14_7, rfl, HA, HK7, HO_8, BK486, HB⟩ := hrel
                      have hl8_7 := (Kd.R_reads' HO_8.out).1
                      rw [hl8_7] at HO_8
                      (try simp only [hl8_7])
                      (try simp only [hl8_7] at BK486)
                      cases gk with
                      | zero => exact absurd HA.out (by simp [hinterlandref02_Settle.l5])
                      | succ k7 =>
                       have H := HA.out
                       clear HA
                       simp only [hinterlandref02_Settle.l5] at H
                       by_cases c60 : x14_7 ≥ 0
                       ·rw [if_pos c60] at H
                        have c60b0 : decide (0 ≤ x14_7) = true := decide_eq_true c60
                        clear c60
                        (try (have c60y0 := c60b0; simp only [hl8_4, hl8_5, hl8_6, hl8_7] at c60y0))
                        (try (have c60y1 := c60b1; simp only [hl8_4, hl8_5, hl8_6, hl8_7] at c60y1))
                        (try (have c60y2 := c60b2; simp only [hl8_4, hl8_5, hl8_6, hl8_7] at c60y2))
                        by_cases c61 : 0 ≤ x14_7
                        ·rw [if_pos c61] at H
                         have c61b0 : decide (0 ≤ x14_7) = true := decide_eq_true c61
                         clear c61
                         (try (have c61y0 := c61b0; simp only [hl8_4, hl8_5, hl8_6, hl8_7] at c61y0))
                         (try (have c61y1 := c61b1; simp only [hl8_4, hl8_5, hl8_6, hl8_7] at c61y1))
                         (try (have c61y2 := c61b2; simp only [hl8_4, hl8_5, hl8_6, hl8_7] at c61y2))
                         by_cases c62 : x14_7 < (x8_7.length : Int)
                         ·rw [if_pos c62] at H
                          have c62b0 : decide (x14_7 < (x8_7.length : Int)) = true := decide_eq_true c62
                          clear c62
                          (try (have c62y0 := c62b0; simp only [hl8_4, hl8_5, hl8_6, hl8_7] at c62y0))
                          (try (have c62y1 := c62b1; simp only [hl8_4, hl8_5, hl8_6, hl8_7] at c62y1))
                          (try (have c62y2 := c62b2; simp only [hl8_4, hl8_5, hl8_6, hl8_7] at c62y2))
                          obtain ⟨ji63, hji63⟩ : ∃ j_ : Int, (wrap64 ((wrap64 (x14_7 + a0)) + 1)) = j_ := ⟨_, rfl⟩
                          replace H : (if 0 ≤ (ji63) then (if (ji63) < (x8_7.length : Int) then (hinterlandref02_Settle.l5 k7 a0 a1 (x8_7.set (x14_7 : Int).toNat (mn (rd x8_7 x14_7) (wrap64 ((rd x8_7 (ji63)) + 1)))) (wrap64 (x14_7 - 1)) x51_3) else (none)) else (none)) = some (r1, r2, r3, r4) := by first | (rw [hji63] at H; exact H) | (simp only [hji63] at H ⊢; exact H)
                          have hji63w : (IntKind.i64.wrap ((wrap64 (x14_7 + a0)) + 1)) = ji63 := (i64_w _).trans hji63
                          by_cases c64 : 0 ≤ (ji63)
                          ·rw [if_pos c64] at H
                           have c64b0 : decide (0 ≤ (ji63)) = true := decide_eq_true c64
                           clear c64
                           (try (have c64y0 := c64b0; simp only [hl8_4, hl8_5, hl8_6, hl8_7] at c64y0))
                           (try (have c64y1 := c64b1; simp only [hl8_4, hl8_5, hl8_6, hl8_7] at c64y1))
                           (try (have c64y2 := c64b2; simp only [hl8_4, hl8_5, hl8_6, hl8_7] at c64y2))
                           by_cases c65 : (ji63) < (x8_7.length : Int)
                           ·rw [if_pos c65] at H
                            have c65b0 : decide ((ji63) < (x8_7.length : Int)) = true := decide_eq_true c65
                            clear c65
                            (try (have c65y0 := c65b0; simp only [hl8_4, hl8_5, hl8_6, hl8_7] at c65y0))
                            (try (have c65y1 := c65b1; simp only [hl8_4, hl8_5, hl8_6, hl8_7] at c65y1))
                            (try (have c65y2 := c65b2; simp only [hl8_4, hl8_5, hl8_6, hl8_7] at c65y2))
                            obtain ⟨ji66, hji66⟩ : ∃ j_ : Int, (mn (rd x8_7 x14_7) (wrap64 ((rd x8_7 (ji63)) + 1))) = j_ := ⟨_, rfl⟩
                            replace H : (hinterlandref02_Settle.l5 k7 a0 a1 (x8_7.set (x14_7 : Int).toNat (ji66)) (wrap64 (x14_7 - 1)) x51_3) = some (r1, r2, r3, r4) := by first | (rw [hji66] at H; exact H) | (simp only [hji66] at H ⊢; exact H)
                            have hji66_ : (if (wrap64 ((rd x8_7 (ji63)) + 1)) < (rd x8_7 x14_7) then (wrap64 ((rd x8_7 (ji63)) + 1)) else (rd x8_7 x14_7)) = ji66 := hji66
                            obtain ⟨y505, hy505⟩ : ∃ y_ : List Int, y_ = (x8_7.set (x14_7 : Int).toNat (ji66)) := ⟨_, rfl⟩
                            replace H : (hinterlandref02_Settle.l5 k7 a0 a1 y505 (wrap64 (x14_7 - 1)) x51_3) = some (r1, r2, r3, r4) := by first | (rw [hy505]; with_reducible exact H) | (have H2_ := (Option.bind_some _ _).symm.trans H; rw [hy505]; with_reducible exact H2_) | (have H2_ := (Option.bind_some _ _).symm.trans H; with_reducible exact H2_) | with_reducible exact H | (rw [hy505]; exact H) | exact H
                            have Ny505 := Aside0.mk hy505
                            clear hy505
                            have H' := Aside0.mk H
                            clear H
                            try go_wp2
                            replace HO_8 := Aside0.mk (Kd.R_drew HO_8.out)
                            replace BK486 := Aside0.mk (blk_drew BK486.out)
                            replace HB := Aside0.mk (below_drew1 HB.out)
                            have p503 : 0 ≤ (x14_7 : Int) := of_decide_eq_true tW_
                            have q503 : x14_7 < (x8_7.length : Int) := of_decide_eq_true tW_
                            obtain ⟨ad503, e503, hx503_0⟩ := Kd.at_int (Kd.R_reads' HO_8.out).2.2 x14_7 p503 q503
                            cases e503
                            replace p503 := eq_true p503
                            replace q503 := eq_true q503
                            have p504 : 0 ≤ ((ji63) : Int) := of_decide_eq_true tW_
                            have q504 : (ji63) < (x8_7.length : Int) := of_decide_eq_true tW_
                            obtain ⟨ad504, e504, hx504_0⟩ := Kd.at_int (Kd.R_reads' HO_8.out).2.2 (ji63) p504 q504
                            obtain rfl : ad503 = ad504 := (by injection e504)
                            replace p504 := eq_true p504
                            replace q504 := eq_true q504
                            have p67 : 0 ≤ (x14_7 : Int) := of_decide_eq_true tW_
                            have q67 : (x14_7 : Int) < ((x8_7.length : Int) : Int) := of_decide_eq_true tW_
                            obtain ⟨go67, co67, eo67, gb67, gl67, cl67, HG67⟩ := Kd.R_form HO_8.out (by omega)
                            (first | cases eo67 | (injection eo67 with ea_ en_ ec_; (first | subst ea_ | (injection ea_ with ea_; subst ea_)); subst ec_; clear en_))
                            have GB67 := Aside0.mk gb67
                            have GG67 := Aside0.mk HG67
                            clear gb67 gl67 HG67
                            (first | simp only [add_plain] at hx503_0 | skip)
                            (first | simp only [add_plain] at hx504_0 | skip)
                            obtain ⟨hx67_0, hf67_0⟩ := Kd.R_celln 0 HO_8.out (x14_7 : Int) p67 q67
                            replace p67 := eq_true p67
                            replace q67 := eq_true q67
                            have HP69 := Kd.R_putn HO_8.out (x14_7 : Int) ji66
                            rw [← Ny505.out] at HP69
                            have HQ69 := Aside0.mk HP69
                            clear HP69
                            refine start_ (n := 17) (S := fun w' => w'.cell? ⟨go67, (x14_7).toNat, none⟩ = some (.int .i64 (rd x8_7 x14_7)) ∧ w'.cell? ⟨go67, ((ji63)).toNat, none⟩ = some (.int .i64 (rd x8_7 (ji63)))) (ds := [16]) #[false, false, false, false, false, false, false, false, false, false, false, false, false, false, false, false, false] (by kernel_rfl) rfl rfl ⟨hx503_0, hx504_0⟩ (fun hHeld => ?_); refine with_tabW hinterlandref02_Settle.tab29 hinterlandref02_Settle.bits29 (fun HT_ HW_ => ?_)
                            generalize wr.drew = w68 at HO_8 BK486 HB GG67 HQ69 hf67_0 hx503_0 hx504_0 hx67_0 hHeld ⊢
                            refine pure_ (i := 0) (N := some 138) (v := ?_) (a' := ?_) (bA 1 17) rfl rfl (any_of HT_.out (by kernel_rfl)) (fun _ _ _ h => h) (Or.inl ⟨by rfl, ?_⟩) ?_ ?_; rotate_left; (intro w'; go_simp; with_reducible rfl); rotate_left; (simp only [Act.put, sI_, s0_, sS_, i64_w, i32_w]; rfl)
                            refine pure_ (i := 1) (N := some 139) (v := ?_) (a' := ?_) (bA 2 17) rfl rfl (any_of HT_.out (by kernel_rfl)) (fun _ _ _ h => h) (Or.inl ⟨by rfl, ?_⟩) ?_ ?_; rotate_left; (intro w'; go_simp; with_reducible rfl); rotate_left; (simp only [Act.put, sI_, s0_, sS_, i64_w, i32_w]; rfl)
                            refine pure_ (i := 2) (N := some 140) (v := ?_) (a' := ?_) (bA 3 17) rfl rfl (any_of HT_.out (by kernel_rfl)) (fun _ _ _ h => h) (Or.inl ⟨by rfl, ?_⟩) ?_ ?_; rotate_left; (intro w'; go_simp; with_reducible rfl); rotate_left; (simp only [Act.put, sI_, s0_, sS_, i64_w, i32_w]; rfl)
                            refine pure_ (i := 3) (N := some 141) (v := ?_) (a' := ?_) (bA 4 17) rfl rfl (any_of HT_.out (by kernel_rfl)) (fun _ _ _ h => h) (Or.inl ⟨by rfl, ?_⟩) ?_ ?_; rotate_left; (intro w'; go_simp; with_reducible rfl); rotate_left; (simp only [Act.put, sI_, s0_, sS_, i64_w, i32_w]; rfl)
                            refine pure_ (i := 4) (N := some 142) (v := ?_) (a' := ?_) (bA 5 17) rfl rfl (any_of HT_.out (by kernel_rfl)) (fun _ _ _ h => h) (Or.inl ⟨by rfl, ?_⟩) ?_ ?_; rotate_left; (intro w'; go_simp; with_reducible rfl); rotate_left; (simp only [Act.put, sI_, s0_, sS_, i64_w, i32_w]; rfl)
                            refine pure_ (i := 6) (N := some 144) (v := ?_) (a' := ?_) #[true, true, true, true, true, false, true, false, false, false, false, false, false, false, false, false, false] rfl rfl (any_of HT_.out (by kernel_rfl)) (fun _ _ _ h => h) (Or.inl ⟨by rfl, ?_⟩) ?_ ?_; rotate_left; (intro w'; go_simp; with_reducible rfl); rotate_left; (simp only [Act.put, sI_, s0_, sS_, i64_w, i32_w]; rfl)
                            refine pure_ (i := 7) (N := some 145) (v := ?_) (a' := ?_) #[true, true, true, true, true, false, true, true, false, false, false, false, false, false, false, false, false] rfl rfl (any_of HT_.out (by kernel_rfl)) (fun _ _ _ h => h) (Or.inl ⟨by rfl, ?_⟩) ?_ ?_; rotate_left; (intro w'; go_simp; with_reducible rfl); rotate_left; (simp only [Act.put, sI_, s0_, sS_, i64_w, i32_w]; rfl)
                            refine pure_ (i := 8) (N := some 146) (v := ?_) (a' := ?_) #[true, true, true, true, true, false, true, true, true, false, false, false, false, false, false, false, false] rfl rfl (any_of HT_.out (by kernel_rfl)) (fun _ _ _ h => h) (Or.inl ⟨by rfl, ?_⟩) ?_ ?_; rotate_left; (intro w'; go_simp; with_reducible rfl); rotate_left; (simp only [Act.put, sI_, s0_, sS_, i64_w, i32_w]; rfl)
                            refine pure_ (i := 9) (N := some 147) (v := ?_) (a' := ?_) #[true, true, true, true, true, false, true, true, true, true, false, false, false, false, false, false, false] rfl rfl (any_of HT_.out (by kernel_rfl)) (fun _ _ _ h => h) (Or.inl ⟨by rfl, ?_⟩) ?_ ?_; rotate_left; (intro w'; go_simp; with_reducible rfl); rotate_left; (simp only [Act.put, sI_, s0_, sS_, i64_w, i32_w]; rfl)
                            refine pure_ (i := 10) (N := some 148) (v := ?_) (a' := ?_) #[true, true, true, true, true, false, true, true, true, true, true, false, false, false, false, false, false] rfl rfl (any_of HT_.out (by kernel_rfl)) (fun _ _ _ h => h) (Or.inl ⟨by rfl, ?_⟩) ?_ ?_; rotate_left; (intro w'; go_simp; with_reducible rfl); rotate_left; (simp only [Act.put, sI_, s0_, sS_, i64_w, i32_w]; rfl)
                            refine pure_ (i := 11) (N := some 149) (v := ?_) (a' := ?_) #[true, true, true, true, true, false, true, true, true, true, true, true, false, false, false, false, false] rfl rfl (any_of HT_.out (by kernel_rfl)) (fun _ _ _ h => h) (Or.inl ⟨by rfl, ?_⟩) ?_ ?_; rotate_left; (intro w'; go_simp; with_reducible rfl); rotate_left; (simp only [Act.put, sI_, s0_, sS_, i64_w, i32_w]; rfl)
                            refine take_ (i := 5) (N := some 143) (v := ?_) (a' := ?_) (bA 12 17) rfl rfl (take_ofW HT_.out HW_.out (by kernel_rfl)) (fun _ _ _ h => h) (Or.inl ⟨by rfl, ?_⟩) hHeld ?_ ?_; rotate_left; (rintro w' ⟨s0, s1⟩; go_simp; with_reducible rfl); rotate_left; (simp only [Act.put, sI_, s0_, sS_, i64_w, i32_w]; rfl)
                            refine take_ (i := 12) (N := some 150) (v := ?_) (a' := ?_) (bA 13 17) rfl rfl (take_ofW HT_.out HW_.out (by kernel_rfl)) (fun _ _ _ h => h) (Or.inl ⟨by rfl, ?_⟩) hHeld ?_ ?_; rotate_left; (rintro w' ⟨s0, s1⟩; go_simp; with_reducible rfl); rotate_left; (simp only [Act.put, sI_, s0_, sS_, i64_w, i32_w]; rfl)
                            refine pure_ (i := 13) (N := some 151) (v := ?_) (a' := ?_) (bA 14 17) rfl rfl (any_of HT_.out (by kernel_rfl)) (fun _ _ _ h => h) (Or.inl ⟨by rfl, ?_⟩) ?_ ?_; rotate_left; (intro w'; go_simp; with_reducible rfl); rotate_left; (simp only [Act.put, sI_, s0_, sS_, i64_w, i32_w]; rfl)
                            refine pure_ (i := 14) (N := some 152) (v := ?_) (a' := ?_) (bA 15 17) rfl rfl (any_of HT_.out (by kernel_rfl)) (fun _ _ _ h => h) (Or.inl ⟨by rfl, ?_⟩) ?_ ?_; rotate_left; (intro w'; go_simp; with_reducible rfl); rotate_left; (simp only [Act.put, sI_, s0_, sS_, i64_w, i32_w]; rfl)
                            refine pure_ (i := 15) (N := some 153) (v := ?_) (a' := ?_) (bA 16 17) rfl rfl (any_of HT_.out (by kernel_rfl)) (fun _ _ _ h => h) (Or.inl ⟨by rfl, ?_⟩) ?_ ?_; rotate_left; (intro w'; go_simp; with_reducible rfl); rotate_left; (simp only [Act.put, sI_, s0_, sS_, i64_w, i32_w]; rfl)
                            refine last_ (i := 16) (N := none) #[true, true, true, true, true, true, true, true, true, true, true, true, true, true, true, true, true] rfl rfl (one_of HT_.out (by kernel_rfl)) (by decide) (fun K hK => ?_)
                            refine skip_ (w1 := ?_) (by rfl) rfl ?_ ?_
                            rotate_left
                            ·go_simp
                             rfl
                            refine hK.out _ _ ?_
                            clear hK K
                            refine done_ (done_of HT_.out (by kernel_rfl)) ?_
                            try go_wp2
                            (try simp only [← hl8_7])
                            go_roundg k7
                            case measure => have := HJ3.out; have := HK2.out; have := HK3.out; have := HK4.out; have := HK5.out; have := HK6.out; have := HK7.out; omega
                            case rel => exact ⟨(y505), (wrap64 (x14_7 - 1)), tS_, H', ⟨by have := HJ3.out; have := HK2.out; have := HK3.out; have := HK4.out; have := HK5.out; have := HK6.out; have := HK7.out; omega⟩, ⟨by (try simp only [hl8_4]); (try simp only [hl8_5]); (try simp only [hl8_6]); (try simp only [hl8_7]); (with_reducible repeat (first | apply Kd.R_alloc | apply Kd.R_drewN | apply Kd.R_drew)); exact HQ69.out⟩, ⟨by (try simp only [hl8_4]); (try simp only [hl8_5]); (try simp only [hl8_6]); (try simp only [hl8_7]); (with_reducible repeat (first | refine blk_drewN ?_ _ | refine blk_drew ?_ | refine blk_alloc ?_ _)); refine blk_far ?_ (by have h_ := Kd.R_ne HO_8.out BK486.out (by decide); intro e_; exact h_ (by rw [e_]; rfl)) _; (with_reducible repeat (first | refine blk_drewN ?_ _ | refine blk_drew ?_ | refine blk_alloc ?_ _)); exact BK486.out⟩, ⟨dL2_ HB GB67 GE486⟩⟩
                           ·rw [if_neg c65] at H
                            exact absurd H (by simp)
                          ·rw [if_neg c64] at H
                           exact absurd H (by simp)
                         ·rw [if_neg c62] at H
                          exact absurd H (by simp)
                        ·rw [if_neg c61] at H
                         exact absurd H (by simp)
                       ·rw [if_neg c60] at H
                        have c60b0 : decide (0 ≤ x14_7) = false := decide_eq_false c60
                        clear c60
                        (try (have c60y0 := c60b0; simp only [hl8_4, hl8_5, hl8_6, hl8_7] at c60y0))
                        (try (have c60y1 := c60b1; simp only [hl8_4, hl8_5, hl8_6, hl8_7] at c60y1))
                        (try (have c60y2 := c60b2; simp only [hl8_4, hl8_5, hl8_6, hl8_7] at c60y2))
                        have H' := Aside0.mk H
                        clear H
                        go_wp2
                        (try simp only [← hl8_4, ← hl8_5, ← hl8_6, ← hl8_7])
                        go_roundg k7
                        case measure => have := HJ3.out; have := HK2.out; have := HK3.out; have := HK4.out; have := HK5.out; have := HK6.out; have := HK7.out; omega
                        case rel => exact ⟨(x8_7), (wrap64 (x51_3 + 1)), tS_, H', ⟨by have := HJ3.out; have := HK2.out; have := HK3.out; have := HK4.out; have := HK5.out; have := HK6.out; have := HK7.out; omega⟩, ⟨by (try simp only [hl8_4]); (try simp only [hl8_5]); (try simp only [hl8_6]); (try simp only [hl8_7]); (with_reducible repeat (first | apply Kd.R_alloc | apply Kd.R_drewN | apply Kd.R_drew)); exact HO_8.out⟩, ⟨by (try simp only [hl8_4]); (try simp only [hl8_5]); (try simp only [hl8_6]); (try simp only [hl8_7]); (with_reducible repeat (first | refine blk_drewN ?_ _ | refine blk_drew ?_ | refine blk_alloc ?_ _)); exact BK486.out⟩, ⟨dL1_ HB GE486⟩⟩
           ·rw [if_neg c25] at H
            have c25b0 : decide (x51_3 < 2) = false := decide_eq_false c25
            clear c25
            simp only [Option.some.injEq, Prod.mk.injEq] at H
            obtain ⟨rfl, rfl, rfl, rfl⟩ := H
            obtain ⟨Ao70, co70, eo70⟩ := Kd.R_slice HO_8.out
            subst eo70
            obtain ⟨hcz71_0, hcz71_1, hcz71_2, hfz71_0, hfz71_1, hfz71_2⟩ := cs3_ BK486.out
            go_wp2
            refine bodyPost_ret (results_ct rfl _ _ gb486 24 #[.int .i64 a0, .int .i64 a1, .slice Ao70 x8_3.length co70] (0, 0) _ rfl (by (with_reducible repeat (first | refine blk_drewN ?_ _ | refine blk_drew ?_ | refine blk_alloc ?_ _)); refine blk_put (cs := #[.int .i64 a0, .int .i64 a1, .slice none 0 0]) ?_ 2 _ rfl; (with_reducible repeat (first | refine blk_drewN ?_ _ | refine blk_drew ?_ | refine blk_alloc ?_ _)); refine blk_put (cs := #[.int .i64 a0, .int .i64 0, .slice none 0 0]) ?_ 1 _ rfl; (with_reducible repeat (first | refine blk_drewN ?_ _ | refine blk_drew ?_ | refine blk_alloc ?_ _)); refine blk_put (cs := #[.int .i64 0, .int .i64 0, .slice none 0 0]) ?_ 0 _ rfl; (with_reducible repeat (first | refine blk_drewN ?_ _ | refine blk_drew ?_ | refine blk_alloc ?_ _)); exact BK486.out) Try.underlying24 rfl (by kernel_rfl)) rfl ?_
            exact ⟨_, tE_, by (with_reducible repeat (first | apply Kd.R_alloc | apply Kd.R_drewN | apply Kd.R_drew)); exact Kd.R_mono (Kd.R_far (p := ⟨gb486, 2, none⟩) (Kd.R_far (p := ⟨gb486, 1, none⟩) (Kd.R_far (p := ⟨gb486, 0, none⟩) (Kd.R_types HO_8.out BK486.out (by decide)) (fun _ hk => hk.2) (.int .i64 a0)) (fun _ hk => hk.2) (.int .i64 a1)) (fun _ hk => hk.2) (.slice Ao70 x8_3.length co70)) (fun _ hk => trivial), dL1_ HB GE486⟩
     ·rw [if_neg c13] at H
      exact absurd H (by simp)
    ·rw [if_neg c12] at H
     exact absurd H (by simp)

end Go.Proofs.Ytchflcnegpnkkaa.Q
