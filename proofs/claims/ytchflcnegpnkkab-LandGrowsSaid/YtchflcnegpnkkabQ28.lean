-- PRINTED by print.py (a twelfth state) out of the translation. Not trusted: Lean checks it.
import Derived.Test.YtchflcnegpnkkabPrs
import Derived.Test.YtchflcnegpnkkabQ0
import Derived.Test.YtchflcnegpnkkabQ22
import Derived.Test.YtchflcnegpnkkabQ23
import Derived.Test.YtchflcnegpnkkabQ25
import Derived.Test.YtchflcnegpnkkabQ27
namespace Go.Proofs.Ytchflcnegpnkkab.Q
open Go.RowKit Go.Proofs.YtchflcnegpnkkabPrs Go.Proofs.YtchflcnegpnkkabOwn Go.Proofs.YtchflcnegpnkkabW.PrintWords Go.Proofs.YtchflcnegpnkkabW.PrintLast Go.Proofs.YtchflcnegpnkkabW.PrintMore
open List renaming setIfInBounds_toArray → sI_, set_cons_zero → s0_, set_cons_succ → sS_
attribute [local go_sem] max2_int min2_int max_two min_two max_three min_three max_four min_four   -- for this text's walks alone
set_option linter.unusedVariables false
set_option linter.unusedSimpArgs false

/-! ### land_Grow: function 12 -/
mutual
def land_Grow.j0 : Nat → Int → Int → Int → Int → Bool → Option (Int × Int × List Int × Int)
  | 0, _, _, _, _, _ => none
  | k + 1, x0, x1, x2, x3, x36 => if x36 = true then (some (0, 0, ([] : List Int), 1)) else ((roll_New.f k x0 (⟨#[108, 97, 110, 100]⟩ : ByteArray)).bind fun t275 => (if 0 ≤ (wrap64 ((wrap64 (x1 + 1)) * (wrap64 (x2 + 1)))) then (if (wrap64 ((wrap64 (x1 + 1)) * (wrap64 (x2 + 1))) : Int).toNat ≤ 35184372088832 then (land_Grow.l0 k x1 x2 x3 (List.replicate (wrap64 ((wrap64 (x1 + 1)) * (wrap64 (x2 + 1))) : Int).toNat 0) 3 t275) else (none)) else (none)))
def land_Grow.l0 : Nat → Int → Int → Int → List Int → Int → Int → Option (Int × Int × List Int × Int)
  | 0, _, _, _, _, _, _ => none
  | k + 1, x1, x2, x3, x11, x12, x277000 => if x12 ≥ 0 then (if 0 ≤ x12 then (if (shl .i64 1 x12) = 0 then (none) else (if 0 ≤ (wrap64 ((wrap64 ((wrap64 (Int.tdiv x1 (shl .i64 1 x12))) + 2)) * (wrap64 ((wrap64 (Int.tdiv x2 (shl .i64 1 x12))) + 2)))) then (if (wrap64 ((wrap64 ((wrap64 (Int.tdiv x1 (shl .i64 1 x12))) + 2)) * (wrap64 ((wrap64 (Int.tdiv x2 (shl .i64 1 x12))) + 2))) : Int).toNat ≤ 35184372088832 then ((some (List.replicate (wrap64 ((wrap64 ((wrap64 (Int.tdiv x1 (shl .i64 1 x12))) + 2)) * (wrap64 ((wrap64 (Int.tdiv x2 (shl .i64 1 x12))) + 2))) : Int).toNat 0 : List Int)).bind fun y280 => (land_Grow.l1 k x1 x2 x3 x11 x12 (shl .i64 1 x12) (wrap64 ((wrap64 (Int.tdiv x1 (shl .i64 1 x12))) + 2)) y280 (y280.length : Int) 0 x277000)) else (none)) else (none))) else (none)) else (land_Grow.l4 k x1 x2 x11 (x11.length : Int) 0)
def land_Grow.l1 : Nat → Int → Int → Int → List Int → Int → Int → Int → List Int → Int → Int → Int → Option (Int × Int × List Int × Int)
  | 0, _, _, _, _, _, _, _, _, _, _, _ => none
  | k + 1, x1, x2, x3, x11, x12, x13, x14, x16, x65, x66, x277000 => if x66 < x65 then ((roll_Below.f k x277000 (wrap64 ((wrap64 (x3 * x13)) + 1))).bind fun bt283 => (if 0 ≤ x66 then (if x66 < (x16.length : Int) then (land_Grow.l1 k x1 x2 x3 x11 x12 x13 x14 (x16.set (x66 : Int).toNat bt283.1) x65 (wrap64 (x66 + 1)) bt283.2) else (none)) else (none))) else (land_Grow.l2 k x1 x2 x3 x11 x12 x13 x14 x16 0 x277000)
def land_Grow.l2 : Nat → Int → Int → Int → List Int → Int → Int → Int → List Int → Int → Int → Option (Int × Int × List Int × Int)
  | 0, _, _, _, _, _, _, _, _, _, _ => none
  | k + 1, x1, x2, x3, x11, x12, x13, x14, x16, x18, x277000 => if x18 ≤ x2 then (land_Grow.l3 k x1 x2 x3 x11 x12 x13 x14 x16 x18 0 x277000) else (land_Grow.l0 k x1 x2 x3 x11 (wrap64 (x12 - 1)) x277000)
def land_Grow.l3 : Nat → Int → Int → Int → List Int → Int → Int → Int → List Int → Int → Int → Int → Option (Int × Int × List Int × Int)
  | 0, _, _, _, _, _, _, _, _, _, _, _ => none
  | k + 1, x1, x2, x3, x11, x12, x13, x14, x16, x18, x19, x277000 => if x19 ≤ x1 then (if x13 = 0 then (none) else (if 0 ≤ (wrap64 ((wrap64 ((wrap64 (Int.tdiv x18 x13)) * x14)) + (wrap64 (Int.tdiv x19 x13)))) then (if (wrap64 ((wrap64 ((wrap64 (Int.tdiv x18 x13)) * x14)) + (wrap64 (Int.tdiv x19 x13)))) < (x16.length : Int) then (if 0 ≤ (wrap64 ((wrap64 ((wrap64 ((wrap64 (Int.tdiv x18 x13)) * x14)) + (wrap64 (Int.tdiv x19 x13)))) + 1)) then (if (wrap64 ((wrap64 ((wrap64 ((wrap64 (Int.tdiv x18 x13)) * x14)) + (wrap64 (Int.tdiv x19 x13)))) + 1)) < (x16.length : Int) then (if 0 ≤ (wrap64 ((wrap64 ((wrap64 ((wrap64 (Int.tdiv x18 x13)) * x14)) + (wrap64 (Int.tdiv x19 x13)))) + x14)) then (if (wrap64 ((wrap64 ((wrap64 ((wrap64 (Int.tdiv x18 x13)) * x14)) + (wrap64 (Int.tdiv x19 x13)))) + x14)) < (x16.length : Int) then (if 0 ≤ (wrap64 ((wrap64 ((wrap64 ((wrap64 ((wrap64 (Int.tdiv x18 x13)) * x14)) + (wrap64 (Int.tdiv x19 x13)))) + x14)) + 1)) then (if (wrap64 ((wrap64 ((wrap64 ((wrap64 ((wrap64 (Int.tdiv x18 x13)) * x14)) + (wrap64 (Int.tdiv x19 x13)))) + x14)) + 1)) < (x16.length : Int) then (if 0 ≤ (wrap64 ((wrap64 (x18 * (wrap64 (x1 + 1)))) + x19)) then (if (wrap64 ((wrap64 (x18 * (wrap64 (x1 + 1)))) + x19)) < (x11.length : Int) then (if (wrap64 (x13 * x13)) = 0 then (none) else (land_Grow.l3 k x1 x2 x3 (x11.set ((wrap64 ((wrap64 (x18 * (wrap64 (x1 + 1)))) + x19)) : Int).toNat (wrap64 ((rd x11 (wrap64 ((wrap64 (x18 * (wrap64 (x1 + 1)))) + x19))) + (wrap64 (Int.tdiv (wrap64 ((wrap64 ((wrap64 ((wrap64 ((wrap64 ((rd x16 (wrap64 ((wrap64 ((wrap64 (Int.tdiv x18 x13)) * x14)) + (wrap64 (Int.tdiv x19 x13))))) * (wrap64 (x13 - (Int.tmod x19 x13))))) * (wrap64 (x13 - (Int.tmod x18 x13))))) + (wrap64 ((wrap64 ((rd x16 (wrap64 ((wrap64 ((wrap64 ((wrap64 (Int.tdiv x18 x13)) * x14)) + (wrap64 (Int.tdiv x19 x13)))) + 1))) * (Int.tmod x19 x13))) * (wrap64 (x13 - (Int.tmod x18 x13))))))) + (wrap64 ((wrap64 ((rd x16 (wrap64 ((wrap64 ((wrap64 ((wrap64 (Int.tdiv x18 x13)) * x14)) + (wrap64 (Int.tdiv x19 x13)))) + x14))) * (wrap64 (x13 - (Int.tmod x19 x13))))) * (Int.tmod x18 x13))))) + (wrap64 ((wrap64 ((rd x16 (wrap64 ((wrap64 ((wrap64 ((wrap64 ((wrap64 (Int.tdiv x18 x13)) * x14)) + (wrap64 (Int.tdiv x19 x13)))) + x14)) + 1))) * (Int.tmod x19 x13))) * (Int.tmod x18 x13))))) (wrap64 (x13 * x13))))))) x12 x13 x14 x16 x18 (wrap64 (x19 + 1)) x277000)) else (none)) else (none)) else (none)) else (none)) else (none)) else (none)) else (none)) else (none)) else (none)) else (none))) else (land_Grow.l2 k x1 x2 x3 x11 x12 x13 x14 x16 (wrap64 (x18 + 1)) x277000)
def land_Grow.l4 : Nat → Int → Int → List Int → Int → Int → Option (Int × Int × List Int × Int)
  | 0, _, _, _, _, _ => none
  | k + 1, x1, x2, x11, x173, x174 => if x174 < x173 then (if 0 ≤ x174 then (if x174 < (x11.length : Int) then (land_Grow.l4 k x1 x2 (x11.set (x174 : Int).toNat (wrap64 (Int.tdiv (rd x11 x174) 2))) x173 (wrap64 (x174 + 1))) else (none)) else (none)) else ((land_Settle.f k x1 x2 x11).bind fun bt294 => (some (bt294.1, bt294.2.1, bt294.2.2.1, bt294.2.2.2)))
end
def land_Grow.f (k : Nat) (a0 : Int) (a1 : Int) (a2 : Int) (a3 : Int) : Option (Int × Int × List Int × Int) := (land_sides.f a1 a2).bind fun t274 => (if t274 = true then (if a3 < 0 then (land_Grow.j0 k a0 a1 a2 a3 true) else (land_Grow.j0 k a0 a1 a2 a3 (decide (a3 > 4)))) else (land_Grow.j0 k a0 a1 a2 a3 true))
theorem land_Grow.mono_l : ∀ k, (∀ y0 y1 y2 y3 y4, LeO (land_Grow.j0 k y0 y1 y2 y3 y4) (land_Grow.j0 (k + 1) y0 y1 y2 y3 y4)) ∧ (∀ y0 y1 y2 y3 y4 y5, LeO (land_Grow.l0 k y0 y1 y2 y3 y4 y5) (land_Grow.l0 (k + 1) y0 y1 y2 y3 y4 y5)) ∧ (∀ y0 y1 y2 y3 y4 y5 y6 y7 y8 y9 y10, LeO (land_Grow.l1 k y0 y1 y2 y3 y4 y5 y6 y7 y8 y9 y10) (land_Grow.l1 (k + 1) y0 y1 y2 y3 y4 y5 y6 y7 y8 y9 y10)) ∧ (∀ y0 y1 y2 y3 y4 y5 y6 y7 y8 y9, LeO (land_Grow.l2 k y0 y1 y2 y3 y4 y5 y6 y7 y8 y9) (land_Grow.l2 (k + 1) y0 y1 y2 y3 y4 y5 y6 y7 y8 y9)) ∧ (∀ y0 y1 y2 y3 y4 y5 y6 y7 y8 y9 y10, LeO (land_Grow.l3 k y0 y1 y2 y3 y4 y5 y6 y7 y8 y9 y10) (land_Grow.l3 (k + 1) y0 y1 y2 y3 y4 y5 y6 y7 y8 y9 y10)) ∧ (∀ y0 y1 y2 y3 y4, LeO (land_Grow.l4 k y0 y1 y2 y3 y4) (land_Grow.l4 (k + 1) y0 y1 y2 y3 y4))
  | 0 => ⟨fun _ _ _ _ _ r h => by simp [land_Grow.j0] at h, fun _ _ _ _ _ _ r h => by simp [land_Grow.l0] at h, fun _ _ _ _ _ _ _ _ _ _ _ r h => by simp [land_Grow.l1] at h, fun _ _ _ _ _ _ _ _ _ _ r h => by simp [land_Grow.l2] at h, fun _ _ _ _ _ _ _ _ _ _ _ r h => by simp [land_Grow.l3] at h, fun _ _ _ _ _ r h => by simp [land_Grow.l4] at h⟩
  | k + 1 => by
    obtain ⟨ih0, ih1, ih2, ih3, ih4, ih5⟩ := land_Grow.mono_l k
    refine ⟨?_, ?_, ?_, ?_, ?_, ?_⟩
    · intro y0 y1 y2 y3 y4
      unfold land_Grow.j0
      repeat' first
      | (with_reducible first | exact ih0 _ _ _ _ _ | exact ih1 _ _ _ _ _ _ | exact ih2 _ _ _ _ _ _ _ _ _ _ _ | exact ih3 _ _ _ _ _ _ _ _ _ _ | exact ih4 _ _ _ _ _ _ _ _ _ _ _ | exact ih5 _ _ _ _ _ | exact land_Settle.mono _ _ _ _ | exact roll_Below.mono _ _ _ | exact roll_New.mono _ _ _ | exact LeO.refl _ | exact LeO.none _ | refine LeO.ite ?_ ?_ | refine LeO.bind ?_ (fun _ => ?_))
      | exact ih0 _ _ _ _ _
      | exact ih1 _ _ _ _ _ _
      | exact ih2 _ _ _ _ _ _ _ _ _ _ _
      | exact ih3 _ _ _ _ _ _ _ _ _ _
      | exact ih4 _ _ _ _ _ _ _ _ _ _ _
      | exact ih5 _ _ _ _ _
      | exact land_Settle.mono _ _ _ _
      | exact roll_Below.mono _ _ _
      | exact roll_New.mono _ _ _
      | exact LeO.none _
      | refine LeO.ite ?_ ?_
      | refine LeO.bind ?_ (fun _ => ?_)
    · intro y0 y1 y2 y3 y4 y5
      unfold land_Grow.l0
      repeat' first
      | (with_reducible first | exact ih0 _ _ _ _ _ | exact ih1 _ _ _ _ _ _ | exact ih2 _ _ _ _ _ _ _ _ _ _ _ | exact ih3 _ _ _ _ _ _ _ _ _ _ | exact ih4 _ _ _ _ _ _ _ _ _ _ _ | exact ih5 _ _ _ _ _ | exact land_Settle.mono _ _ _ _ | exact roll_Below.mono _ _ _ | exact roll_New.mono _ _ _ | exact LeO.refl _ | exact LeO.none _ | refine LeO.ite ?_ ?_ | refine LeO.bind ?_ (fun _ => ?_))
      | exact ih0 _ _ _ _ _
      | exact ih1 _ _ _ _ _ _
      | exact ih2 _ _ _ _ _ _ _ _ _ _ _
      | exact ih3 _ _ _ _ _ _ _ _ _ _
      | exact ih4 _ _ _ _ _ _ _ _ _ _ _
      | exact ih5 _ _ _ _ _
      | exact land_Settle.mono _ _ _ _
      | exact roll_Below.mono _ _ _
      | exact roll_New.mono _ _ _
      | exact LeO.none _
      | refine LeO.ite ?_ ?_
      | refine LeO.bind ?_ (fun _ => ?_)
    · intro y0 y1 y2 y3 y4 y5 y6 y7 y8 y9 y10
      unfold land_Grow.l1
      repeat' first
      | (with_reducible first | exact ih0 _ _ _ _ _ | exact ih1 _ _ _ _ _ _ | exact ih2 _ _ _ _ _ _ _ _ _ _ _ | exact ih3 _ _ _ _ _ _ _ _ _ _ | exact ih4 _ _ _ _ _ _ _ _ _ _ _ | exact ih5 _ _ _ _ _ | exact land_Settle.mono _ _ _ _ | exact roll_Below.mono _ _ _ | exact roll_New.mono _ _ _ | exact LeO.refl _ | exact LeO.none _ | refine LeO.ite ?_ ?_ | refine LeO.bind ?_ (fun _ => ?_))
      | exact ih0 _ _ _ _ _
      | exact ih1 _ _ _ _ _ _
      | exact ih2 _ _ _ _ _ _ _ _ _ _ _
      | exact ih3 _ _ _ _ _ _ _ _ _ _
      | exact ih4 _ _ _ _ _ _ _ _ _ _ _
      | exact ih5 _ _ _ _ _
      | exact land_Settle.mono _ _ _ _
      | exact roll_Below.mono _ _ _
      | exact roll_New.mono _ _ _
      | exact LeO.none _
      | refine LeO.ite ?_ ?_
      | refine LeO.bind ?_ (fun _ => ?_)
    · intro y0 y1 y2 y3 y4 y5 y6 y7 y8 y9
      unfold land_Grow.l2
      repeat' first
      | (with_reducible first | exact ih0 _ _ _ _ _ | exact ih1 _ _ _ _ _ _ | exact ih2 _ _ _ _ _ _ _ _ _ _ _ | exact ih3 _ _ _ _ _ _ _ _ _ _ | exact ih4 _ _ _ _ _ _ _ _ _ _ _ | exact ih5 _ _ _ _ _ | exact land_Settle.mono _ _ _ _ | exact roll_Below.mono _ _ _ | exact roll_New.mono _ _ _ | exact LeO.refl _ | exact LeO.none _ | refine LeO.ite ?_ ?_ | refine LeO.bind ?_ (fun _ => ?_))
      | exact ih0 _ _ _ _ _
      | exact ih1 _ _ _ _ _ _
      | exact ih2 _ _ _ _ _ _ _ _ _ _ _
      | exact ih3 _ _ _ _ _ _ _ _ _ _
      | exact ih4 _ _ _ _ _ _ _ _ _ _ _
      | exact ih5 _ _ _ _ _
      | exact land_Settle.mono _ _ _ _
      | exact roll_Below.mono _ _ _
      | exact roll_New.mono _ _ _
      | exact LeO.none _
      | refine LeO.ite ?_ ?_
      | refine LeO.bind ?_ (fun _ => ?_)
    · intro y0 y1 y2 y3 y4 y5 y6 y7 y8 y9 y10
      unfold land_Grow.l3
      repeat' first
      | (with_reducible first | exact ih0 _ _ _ _ _ | exact ih1 _ _ _ _ _ _ | exact ih2 _ _ _ _ _ _ _ _ _ _ _ | exact ih3 _ _ _ _ _ _ _ _ _ _ | exact ih4 _ _ _ _ _ _ _ _ _ _ _ | exact ih5 _ _ _ _ _ | exact land_Settle.mono _ _ _ _ | exact roll_Below.mono _ _ _ | exact roll_New.mono _ _ _ | exact LeO.refl _ | exact LeO.none _ | refine LeO.ite ?_ ?_ | refine LeO.bind ?_ (fun _ => ?_))
      | exact ih0 _ _ _ _ _
      | exact ih1 _ _ _ _ _ _
      | exact ih2 _ _ _ _ _ _ _ _ _ _ _
      | exact ih3 _ _ _ _ _ _ _ _ _ _
      | exact ih4 _ _ _ _ _ _ _ _ _ _ _
      | exact ih5 _ _ _ _ _
      | exact land_Settle.mono _ _ _ _
      | exact roll_Below.mono _ _ _
      | exact roll_New.mono _ _ _
      | exact LeO.none _
      | refine LeO.ite ?_ ?_
      | refine LeO.bind ?_ (fun _ => ?_)
    · intro y0 y1 y2 y3 y4
      unfold land_Grow.l4
      repeat' first
      | (with_reducible first | exact ih0 _ _ _ _ _ | exact ih1 _ _ _ _ _ _ | exact ih2 _ _ _ _ _ _ _ _ _ _ _ | exact ih3 _ _ _ _ _ _ _ _ _ _ | exact ih4 _ _ _ _ _ _ _ _ _ _ _ | exact ih5 _ _ _ _ _ | exact land_Settle.mono _ _ _ _ | exact roll_Below.mono _ _ _ | exact roll_New.mono _ _ _ | exact LeO.refl _ | exact LeO.none _ | refine LeO.ite ?_ ?_ | refine LeO.bind ?_ (fun _ => ?_))
      | exact ih0 _ _ _ _ _
      | exact ih1 _ _ _ _ _ _
      | exact ih2 _ _ _ _ _ _ _ _ _ _ _
      | exact ih3 _ _ _ _ _ _ _ _ _ _
      | exact ih4 _ _ _ _ _ _ _ _ _ _ _
      | exact ih5 _ _ _ _ _
      | exact land_Settle.mono _ _ _ _
      | exact roll_Below.mono _ _ _
      | exact roll_New.mono _ _ _
      | exact LeO.none _
      | refine LeO.ite ?_ ?_
      | refine LeO.bind ?_ (fun _ => ?_)
theorem land_Grow.mono : ∀ a0 a1 a2 a3 k, LeO (land_Grow.f k a0 a1 a2 a3) (land_Grow.f (k + 1) a0 a1 a2 a3) := by
  intro a0 a1 a2 a3 k
  obtain ⟨ih0, ih1, ih2, ih3, ih4, ih5⟩ := land_Grow.mono_l k
  unfold land_Grow.f
  repeat' first
      | (with_reducible first | exact ih0 _ _ _ _ _ | exact ih1 _ _ _ _ _ _ | exact ih2 _ _ _ _ _ _ _ _ _ _ _ | exact ih3 _ _ _ _ _ _ _ _ _ _ | exact ih4 _ _ _ _ _ _ _ _ _ _ _ | exact ih5 _ _ _ _ _ | exact land_Settle.mono _ _ _ _ | exact roll_Below.mono _ _ _ | exact roll_New.mono _ _ _ | exact LeO.refl _ | exact LeO.none _ | refine LeO.ite ?_ ?_ | refine LeO.bind ?_ (fun _ => ?_))
      | exact ih0 _ _ _ _ _
      | exact ih1 _ _ _ _ _ _
      | exact ih2 _ _ _ _ _ _ _ _ _ _ _
      | exact ih3 _ _ _ _ _ _ _ _ _ _
      | exact ih4 _ _ _ _ _ _ _ _ _ _ _
      | exact ih5 _ _ _ _ _
      | exact land_Settle.mono _ _ _ _
      | exact roll_Below.mono _ _ _
      | exact roll_New.mono _ _ _
      | exact LeO.none _
      | refine LeO.ite ?_ ?_
      | refine LeO.bind ?_ (fun _ => ?_)
def land_Grow.T9 : Bool × List (List Nat × List Nat) := (true, [([], []), ([], []), ([0, 1], [0, 1]), ([2], [2]), ([], []), ([], []), ([4, 5], [4, 5]), ([6], [6]), ([3, 0, 1, 2, 3], [3]), ([7, 8, 0, 1, 2, 3, 4, 5, 6, 7, 8], [7])])
def land_Grow.B9 : List Nat := [0, 0, 3, 7, 0, 0, 48, 112, 15, 511]
theorem land_Grow.tab9 : rtab .any (opsOf Try.f12 9) = land_Grow.T9 := by kernel_rfl
theorem land_Grow.bits9 : waitsOk land_Grow.T9.2 land_Grow.B9 = true := by kernel_rfl
def land_Grow.T22 : Bool × List (List Nat × List Nat) := (true, [([], []), ([], []), ([0, 1], [0, 1]), ([], []), ([2, 3], [2, 3]), ([], []), ([], []), ([5, 6], [5, 6]), ([4, 7], [4, 7]), ([], []), ([], []), ([9, 10], [9, 10]), ([], []), ([], []), ([12, 13], [12, 13]), ([8, 0, 1, 2, 3, 4, 5, 6, 7, 8], [8]), ([11, 15, 0, 1, 2, 3, 4, 5, 6, 7, 8, 9, 10, 11, 15], [11]), ([14, 16, 0, 1, 2, 3, 4, 5, 6, 7, 8, 9, 10, 11, 12, 13, 14, 15, 16], [14])])
def land_Grow.B22 : List Nat := [0, 0, 3, 0, 15, 0, 0, 96, 255, 0, 0, 1536, 0, 0, 12288, 511, 36863, 131071]
theorem land_Grow.tab22 : rtab .any (opsOf Try.f12 22) = land_Grow.T22 := by kernel_rfl
theorem land_Grow.bits22 : waitsOk land_Grow.T22.2 land_Grow.B22 = true := by kernel_rfl
def land_Grow.T23 : Bool × List (List Nat × List Nat) := (true, [([], []), ([], []), ([0, 1], [0, 1]), ([2], [2]), ([], []), ([], []), ([4, 5], [4, 5]), ([3, 6], [3, 6]), ([], []), ([], []), ([8, 9], [8, 9]), ([7, 10], [7, 10]), ([], []), ([], []), ([13], [13]), ([12, 14], [12, 14]), ([15], [15]), ([], []), ([16, 17], [16, 17]), ([], []), ([], []), ([19, 20], [19, 20]), ([18, 21], [18, 21]), ([11, 22], [11, 22]), ([], []), ([], []), ([], []), ([25, 26], [25, 26]), ([24, 27], [24, 27]), ([28], [28]), ([], []), ([], []), ([30, 31], [30, 31]), ([29, 32], [29, 32]), ([], []), ([33, 34], [33, 34]), ([23, 35], [23, 35]), ([], []), ([], []), ([], []), ([38, 39], [38, 39]), ([40], [40]), ([37, 41], [37, 41]), ([42], [42]), ([], []), ([43, 44], [43, 44]), ([], []), ([45, 46], [45, 46]), ([36, 47], [36, 47]), ([48, 0, 1, 2, 3, 4, 5, 6, 7, 8, 9, 10, 11, 12, 13, 14, 15, 16, 17, 18, 19, 20, 21, 22, 23, 24, 25, 26, 27, 28, 29, 30, 31, 32, 33, 34, 35, 36, 37, 38, 39, 40, 41, 42, 43, 44, 45, 46, 47, 48], [48])])
def land_Grow.B23 : List Nat := [0, 0, 3, 7, 0, 0, 48, 127, 0, 0, 768, 2047, 0, 0, 8192, 28672, 61440, 0, 258048, 0, 0, 1572864, 4190208, 8388607, 0, 0, 0, 100663296, 251658240, 520093696, 0, 0, 3221225472, 8573157376, 0, 34342961152, 68719476735, 0, 0, 0, 824633720832, 1924145348608, 4260607557632, 8658654068736, 0, 35046933135360, 0, 140600049401856, 281474976710655, 562949953421311]
theorem land_Grow.tab23 : rtab .any (opsOf Try.f12 23) = land_Grow.T23 := by kernel_rfl
theorem land_Grow.bits23 : waitsOk land_Grow.T23.2 land_Grow.B23 = true := by kernel_rfl
def land_Grow.T24 : Bool × List (List Nat × List Nat) := (true, [([], []), ([], []), ([], []), ([2], [2]), ([1, 3], [1, 3]), ([], []), ([4, 5], [4, 5]), ([0, 6], [0, 6]), ([7], [7]), ([], []), ([], []), ([], []), ([10, 11], [10, 11]), ([9, 12], [9, 12]), ([8, 13], [8, 13]), ([0, 6, 0, 1, 2, 3, 4, 5, 6, 7, 8, 9, 10, 11, 12, 13, 14], [0, 6]), ([15, 14, 0, 1, 2, 3, 4, 5, 6, 7, 8, 9, 10, 11, 12, 13, 14], [14, 15])])
def land_Grow.B24 : List Nat := [0, 0, 0, 4, 14, 0, 62, 127, 255, 0, 0, 0, 3072, 7680, 16383, 32767, 65535]
theorem land_Grow.tab24 : rtab .any (opsOf Try.f12 24) = land_Grow.T24 := by kernel_rfl
theorem land_Grow.bits24 : waitsOk land_Grow.T24.2 land_Grow.B24 = true := by kernel_rfl
set_option maxHeartbeats 8000000 in
set_option maxRecDepth 100000 in
theorem land_Grow.calls (k : Nat) (a0 : Int) (a1 : Int) (a2 : Int) (a3 : Int) (r1 : Int) (r2 : Int) (r3 : List Int) (r4 : Int) (w : World) (h : land_Grow.f k a0 a1 a2 a3 = some (r1, r2, r3, r4)) :
    Calls Try.prog 12 #[.int .u64 a0, .int .i64 a1, .int .i64 a2, .int .i64 a3] w fun e w' => ∃ v2_ : Value, e = .returned (.tuple #[.agg #[.int .i64 r1, .int .i64 r2, v2_], .int .i64 r4]) ∧ Kd.R (Kd.int .i64) 3 w' w.heap.size (fun _ => True) v2_ r3 ∧ Below w.heap.size w w' := by
 have hu24 := Try.underlying24
 have hu52 := Try.underlying52
 have HB := Aside0.mk (Below.refl w.heap.size w)
 have H : ((land_sides.f a1 a2).bind fun t274 => (if t274 = true then (if a3 < 0 then (land_Grow.j0 k a0 a1 a2 a3 true) else (land_Grow.j0 k a0 a1 a2 a3 (decide (a3 > 4)))) else (land_Grow.j0 k a0 a1 a2 a3 true))) = some (r1, r2, r3, r4) := h
 clear h
 have HC5 := Aside0.mk H
 clear H
 go_enter Try.func12, Try.ntmps12
 go_upto_region 1 with (first | ((with_reducible refine gate_dst (N := 8) rfl ?_); refine box_event ?hg (N := 8) ?hd (cs := #[.int .i64 0, .int .i64 0, .slice none 0 0]) (t := 24) ?hr ?_; (case hd => rfl); (case hg => rfl); (case hr => first | (go_simp; done) | (go_simp; rfl)); intro gb273 hg w6 hbox hb; have BK273 := Aside0.mk (hbox); have GW273 := Aside0.mk ((dS_ hg (dL_ HB) : w.heap.size ≤ gb273)); have GE273 := Aside0.mk ((dS_ hg (dL_ HB) : w.heap.size ≤ gb273)); replace HB := Aside0.mk (below_step (dL_ HB) hb); clear hb hbox hg))
 (try simp only [Act.put, sI_, s0_, sS_])
 go_cut [36] (fun v36 wc => ∃ (kq : Nat) (x36_4 : Bool), v36 = .bool x36_4 ∧ Aside0 (land_Grow.j0 kq a0 a1 a2 a3 x36_4 = some (r1, r2, r3, r4)) ∧ Aside0 (kq ≤ k) ∧ Aside0 (wc.heap[gb273]? = some (.cells #[.int .i64 0, .int .i64 0, (.slice none 0 0)] 24 (0, 0))) ∧ Aside0 (Below w.heap.size w wc))
 case first =>
  have H := HC5.out
  clear HC5
  replace H := Option.bind_eq_some_iff.mp H
  obtain ⟨t274, A70, H⟩ := H
  replace H : (if t274 = true then (if a3 < 0 then (land_Grow.j0 k a0 a1 a2 a3 true) else (land_Grow.j0 k a0 a1 a2 a3 (decide (a3 > 4)))) else (land_Grow.j0 k a0 a1 a2 a3 true)) = some (r1, r2, r3, r4) := H
  have A7 := Aside0.mk A70
  clear A70
  by_cases c8 : t274 = true
  ·subst c8
   have H1 : (if a3 < 0 then (land_Grow.j0 k a0 a1 a2 a3 true) else (land_Grow.j0 k a0 a1 a2 a3 (decide (a3 > 4)))) = some (r1, r2, r3, r4) := by rw [if_pos rfl] at H; exact H
   clear H
   have H := H1
   clear H1
   by_cases c9 : a3 < 0
   ·rw [if_pos c9] at H
    have c9b0 : decide (a3 < 0) = true := decide_eq_true c9
    clear c9
    (first | rw [c9b0] | (simp only [i64_w, i32_w]; rw [c9b0]) | skip)
    have H' := Aside0.mk H
    clear H
    go_wp2_with (first | ((with_reducible refine gate_callee (f := 23) rfl ?_); refine goesL_ (some 27) rfl rfl Try.func23 (by kernel_rfl) rfl #[.int .i64 a1, .int .i64 a2] rfl tA_ ?_; (with_reducible refine (land_sides.calls a1 a2 true _ A7.out).mono ?_); rintro e w' ⟨rfl, ⟨nd, rfl⟩⟩; refine ⟨_, rfl, ?_⟩))
    go_meet
    case rel => exact ⟨_, (true), tS_, H', ⟨by first | omega | exact Nat.le_refl _⟩, ⟨dB_ BK273⟩, ⟨dL1_ HB GE273⟩⟩
   ·rw [if_neg c9] at H
    have c9b0 : decide (a3 < 0) = false := decide_eq_false c9
    clear c9
    (first | rw [c9b0] | (simp only [i64_w, i32_w]; rw [c9b0]) | skip)
    have H' := Aside0.mk H
    clear H
    go_wp2_with (first | ((with_reducible refine gate_callee (f := 23) rfl ?_); refine goesL_ (some 27) rfl rfl Try.func23 (by kernel_rfl) rfl #[.int .i64 a1, .int .i64 a2] rfl tA_ ?_; (with_reducible refine (land_sides.calls a1 a2 true _ A7.out).mono ?_); rintro e w' ⟨rfl, ⟨nd, rfl⟩⟩; refine ⟨_, rfl, ?_⟩))
    go_meet
    case rel => exact ⟨_, (decide (a3 > 4)), tS_, H', ⟨by first | omega | exact Nat.le_refl _⟩, ⟨dB_ BK273⟩, ⟨dL1_ HB GE273⟩⟩
  ·replace c8 := Bool.eq_false_iff.mpr c8
   subst c8
   have H1 : (land_Grow.j0 k a0 a1 a2 a3 true) = some (r1, r2, r3, r4) := by rw [if_neg (show ¬ (false = true) by decide)] at H; exact H
   clear H
   have H := H1
   clear H1
   have H' := Aside0.mk H
   clear H
   go_wp2_with (first | ((with_reducible refine gate_callee (f := 23) rfl ?_); refine goesL_ (some 27) rfl rfl Try.func23 (by kernel_rfl) rfl #[.int .i64 a1, .int .i64 a2] rfl tA_ ?_; (with_reducible refine (land_sides.calls a1 a2 false _ A7.out).mono ?_); rintro e w' ⟨rfl, ⟨nd, rfl⟩⟩; refine ⟨_, rfl, ?_⟩))
   go_meet
   case rel => exact ⟨_, (true), tS_, H', ⟨by first | omega | exact Nat.le_refl _⟩, ⟨dB_ BK273⟩, ⟨dL1_ HB GE273⟩⟩
 case rest =>
  clear HC5
  try clear c9
  obtain ⟨kq, x36_4, rfl, HA, HJ4, BK273, HB⟩ := hcut
  cases kq with
  | zero => exact absurd HA.out (by simp [land_Grow.j0])
  | succ kj4 =>
   have H := HA.out
   clear HA
   simp only [land_Grow.j0] at H
   by_cases c10 : x36_4 = true
   ·subst c10
    have H1 : (some (0, 0, ([] : List Int), 1)) = some (r1, r2, r3, r4) := by rw [if_pos rfl] at H; exact H
    clear H
    have H := H1
    clear H1
    simp only [Option.some.injEq, Prod.mk.injEq] at H
    obtain ⟨rfl, rfl, rfl, rfl⟩ := H
    obtain ⟨hcz11_0, hcz11_1, hcz11_2, hfz11_0, hfz11_1, hfz11_2⟩ := cs3_ BK273.out
    go_wp2
    refine bodyPost_ret (results_ct rfl _ _ gb273 24 #[.int .i64 0, .int .i64 0, .slice none 0 0] (0, 0) _ rfl (by (with_reducible repeat (first | refine blk_drewN ?_ _ | refine blk_drew ?_ | refine blk_alloc ?_ _)); refine blk_put (cs := #[.int .i64 0, .int .i64 0, .slice none 0 0]) ?_ 2 _ rfl; (with_reducible repeat (first | refine blk_drewN ?_ _ | refine blk_drew ?_ | refine blk_alloc ?_ _)); refine blk_put (cs := #[.int .i64 0, .int .i64 0, .slice none 0 0]) ?_ 1 _ rfl; (with_reducible repeat (first | refine blk_drewN ?_ _ | refine blk_drew ?_ | refine blk_alloc ?_ _)); refine blk_put (cs := #[.int .i64 0, .int .i64 0, .slice none 0 0]) ?_ 0 _ rfl; (with_reducible repeat (first | refine blk_drewN ?_ _ | refine blk_drew ?_ | refine blk_alloc ?_ _)); exact BK273.out) Try.underlying24 rfl (by kernel_rfl)) rfl ?_
    exact ⟨_, tE_, by first | exact Kd.R_nil _ _ _ _ _ | exact Kd.N_nil _ _ _ _ _ | exact Kd.V_nil _ _ _ _ _ | exact Kd.Q_nil _ _ _ _ _ | exact Kd.S_nil _ _ _ _ _, dL1_ HB GE273⟩
   ·replace c10 := Bool.eq_false_iff.mpr c10
    subst c10
    have H1 : ((roll_New.f kj4 a0 (⟨#[108, 97, 110, 100]⟩ : ByteArray)).bind fun t275 => (if 0 ≤ (wrap64 ((wrap64 (a1 + 1)) * (wrap64 (a2 + 1)))) then (if (wrap64 ((wrap64 (a1 + 1)) * (wrap64 (a2 + 1))) : Int).toNat ≤ 35184372088832 then (land_Grow.l0 kj4 a1 a2 a3 (List.replicate (wrap64 ((wrap64 (a1 + 1)) * (wrap64 (a2 + 1))) : Int).toNat 0) 3 t275) else (none)) else (none))) = some (r1, r2, r3, r4) := by rw [if_neg (show ¬ (false = true) by decide)] at H; exact H
    clear H
    have H := H1
    clear H1
    replace H := Option.bind_eq_some_iff.mp H
    obtain ⟨t275, A120, H⟩ := H
    replace H : (if 0 ≤ (wrap64 ((wrap64 (a1 + 1)) * (wrap64 (a2 + 1)))) then (if (wrap64 ((wrap64 (a1 + 1)) * (wrap64 (a2 + 1))) : Int).toNat ≤ 35184372088832 then (land_Grow.l0 kj4 a1 a2 a3 (List.replicate (wrap64 ((wrap64 (a1 + 1)) * (wrap64 (a2 + 1))) : Int).toNat 0) 3 t275) else (none)) else (none)) = some (r1, r2, r3, r4) := H
    have A12 := Aside0.mk A120
    clear A120
    obtain ⟨ji13, hji13⟩ : ∃ j_ : Int, (wrap64 ((wrap64 (a1 + 1)) * (wrap64 (a2 + 1)))) = j_ := ⟨_, rfl⟩
    replace H : (if 0 ≤ (ji13) then (if (ji13 : Int).toNat ≤ 35184372088832 then (land_Grow.l0 kj4 a1 a2 a3 (List.replicate (ji13 : Int).toNat 0) 3 t275) else (none)) else (none)) = some (r1, r2, r3, r4) := by first | (rw [hji13] at H; exact H) | (simp only [hji13] at H ⊢; exact H)
    (try rw [hji13] at A12)
    have hji13w : (IntKind.i64.wrap ((wrap64 (a1 + 1)) * (wrap64 (a2 + 1)))) = ji13 := (i64_w _).trans hji13
    by_cases c14 : 0 ≤ (ji13)
    ·rw [if_pos c14] at H
     have c14b0 := eq_true c14
     have c14b1 : decide (0 ≤ (ji13)) = true := decide_eq_true c14
     clear c14
     by_cases c15 : (ji13 : Int).toNat ≤ 35184372088832
     ·rw [if_pos c15] at H
      have c15b0 := eq_true c15
      have c15b1 : decide ((ji13 : Int).toNat ≤ 35184372088832) = true := decide_eq_true c15
      clear c15
      obtain ⟨y277, hy277⟩ : ∃ y_ : List Int, y_ = (List.replicate (ji13 : Int).toNat 0) := ⟨_, rfl⟩
      replace H : (land_Grow.l0 kj4 a1 a2 a3 y277 3 t275) = some (r1, r2, r3, r4) := by first | (rw [hy277]; with_reducible exact H) | (have H2_ := (Option.bind_some _ _).symm.trans H; rw [hy277]; with_reducible exact H2_) | (have H2_ := (Option.bind_some _ _).symm.trans H; with_reducible exact H2_) | with_reducible exact H | (rw [hy277]; exact H) | exact H
      have Ny277 := Aside0.mk hy277
      clear hy277
      have H' := Aside0.mk H
      clear H
      go_wp2_with (first | ((with_reducible refine gate_callee (f := 24) rfl ?_); refine goesL_ (some 39) rfl rfl Try.func24 (by kernel_rfl) rfl #[.int .u64 a0, .string (⟨#[108, 97, 110, 100]⟩ : ByteArray)] rfl tA_ ?_; (with_reducible refine (roll_New.calls kj4 a0 (⟨#[108, 97, 110, 100]⟩ : ByteArray) t275 _ A12.out).mono ?_); rintro e w16 ⟨rfl, hb⟩; refine ⟨_, rfl, ?_⟩; replace BK273 := Aside0.mk (blk_below (g := gb273) (o := .cells #[.int .i64 0, .int .i64 0, .slice none 0 0] 24 (0, 0)) (dB_ BK273) hb); replace HB := Aside0.mk (below_step (dL1_ HB GE273) hb)) | ((with_reducible refine gate_dst (N := 10) rfl ?_); refine box_event ?hg (N := 10) ?hd (cs := #[.int .u64 0]) (t := 52) ?hr ?_; (case hd => rfl); (case hg => rfl); (case hr => first | (go_simp; done) | (go_simp; rfl)); intro gb276 hg w17 hbox hb; have BK276 := Aside0.mk (hbox); have GW276 := Aside0.mk ((dS_ hg (dL1_ HB GE273) : w.heap.size ≤ gb276)); have GE276 := Aside0.mk ((dS_ hg (dL1_ HB GE273) : w.heap.size ≤ gb276)); replace HB := Aside0.mk (below_step (dL1_ HB GE273) hb); have NB273_276 := Aside0.mk ((by rw [hg]; exact Nat.ne_of_lt (blk_lt (dB_ BK273)) : gb273 ≠ gb276)); have NB276_273 := Aside0.mk ((by rw [hg]; exact Nat.ne_of_gt (blk_lt (dB_ BK273)) : gb276 ≠ gb273)); replace BK273 := Aside0.mk (blk_below (g := gb273) (o := .cells #[.int .i64 0, .int .i64 0, .slice none 0 0] 24 (0, 0)) (dB_ BK273) hb); clear hb hbox hg; have hnb18 := NB276_273.out; have hnc18 := NB273_276.out; have hcz19_0 : w17.cell? ⟨gb276, 0, none⟩ = some (.int .u64 0) := (blk_cell BK276.out 0).trans rfl; have hfz19_0 := blk_frozen BK276.out 0) | ((with_reducible refine gate_dst (N := 45) rfl ?_); refine Kd.R_make (Kd.int .i64) _ 3 rfl (N := 45) rfl 22 _ _ rfl ji13 rfl rfl Try.underlying22 (.int .i64 0) 8 info3 rfl (by decide) (by omega) 0 (ok := fun _ => True) (okp := fun _ => True) rfl (fun _ hk => hk) trivial (of_decide_eq_true tW_) (Nat.le_trans (Nat.mul_le_mul_right _ (of_decide_eq_true tW_ : ji13.toNat ≤ 35184372088832)) (by omega)) (Below.refl _ _) (Nat.le_refl _) ?_; intro v278 w20 ho21 hb hg_ hnew_; clear hg_ hnew_; (first | rw [← Ny277.out] at ho21 | (simp only [Int.reduceToNat] at ho21; rw [← Ny277.out] at ho21)); have HO279 := Aside0.mk (Kd.R_lower ho21 (below_size (dL2_ HB GE273 GE276))); replace BK273 := Aside0.mk (blk_below (g := gb273) (o := .cells #[.int .i64 0, .int .i64 0, .slice none 0 0] 24 (0, 0)) (by (with_reducible repeat (first | refine blk_drewN ?_ _ | refine blk_drew ?_ | refine blk_alloc ?_ _)); refine blk_far ?_ NB273_276.out _; (with_reducible repeat (first | refine blk_drewN ?_ _ | refine blk_drew ?_ | refine blk_alloc ?_ _)); exact BK273.out) hb); replace BK276 := Aside0.mk (blk_below (g := gb276) (o := .cells #[.int .u64 t275] 52 (0, 0)) (by (with_reducible repeat (first | refine blk_drewN ?_ _ | refine blk_drew ?_ | refine blk_alloc ?_ _)); refine blk_put (cs := #[.int .u64 0]) ?_ 0 _ rfl; (with_reducible repeat (first | refine blk_drewN ?_ _ | refine blk_drew ?_ | refine blk_alloc ?_ _)); exact BK276.out) hb); replace HB := Aside0.mk (below_step (dL2_ HB GE273 GE276) hb); clear hb ho21))
      go_loopg [12] kj4 (fun kq v12 w' => ∃ (x11_2 : List Int) (x12_2 : Int) (x277000_2 : Int), v12 = .int .i64 x12_2 ∧ Aside0 (land_Grow.l0 kq a1 a2 a3 x11_2 x12_2 x277000_2 = some (r1, r2, r3, r4)) ∧ Aside0 (kq ≤ kj4) ∧ Aside0 (Kd.R (Kd.int .i64) 3 w' w.heap.size (fun _ => True) v278 x11_2) ∧ Aside0 (w'.heap[gb273]? = some (.cells #[.int .i64 0, .int .i64 0, (.slice none 0 0)] 24 (0, 0))) ∧ Aside0 (w'.heap[gb276]? = some (.cells #[.int .u64 x277000_2] 52 (0, 0))) ∧ Aside0 (Below w.heap.size w w'))
      case atStart => exact ⟨(y277), (3), (t275), tS_, H', ⟨Nat.le_refl _⟩, ⟨dR_ HO279⟩, ⟨dB_ BK273⟩, ⟨dB_ BK276⟩, ⟨dL2_ HB GE273 GE276⟩⟩
      case round =>
       clear H'
       try clear c9
       try clear c10
       try clear c14
       try clear c14b0
       try clear c14b1
       try clear c15
       try clear c15b0
       try clear c15b1
       try clear hcz19_0
       try clear hfz19_0
       obtain ⟨x11_2, x12_2, x277000_2, rfl, HA, HK2, HO_11, BK273, BK276, HB⟩ := hrel
       cases gk with
       | zero => exact absurd HA.out (by simp [land_Grow.l0])
       | succ k2 =>
        have H := HA.out
        clear HA
        simp only [land_Grow.l0] at H
        by_cases c22 : x12_2 ≥ 0
        ·rw [if_pos c22] at H
         have c22b0 : decide (0 ≤ x12_2) = true := decide_eq_true c22
         clear c22
         by_cases c23 : 0 ≤ x12_2
         ·rw [if_pos c23] at H
          have c23b0 := eq_true c23
          have c23b1 : decide (0 ≤ x12_2) = true := decide_eq_true c23
          clear c23
          obtain ⟨ji24, hji24⟩ : ∃ j_ : Int, (shl .i64 1 x12_2) = j_ := ⟨_, rfl⟩
          replace H : (if (ji24) = 0 then (none) else (if 0 ≤ (wrap64 ((wrap64 ((wrap64 (Int.tdiv a1 (ji24))) + 2)) * (wrap64 ((wrap64 (Int.tdiv a2 (ji24))) + 2)))) then (if (wrap64 ((wrap64 ((wrap64 (Int.tdiv a1 (ji24))) + 2)) * (wrap64 ((wrap64 (Int.tdiv a2 (ji24))) + 2))) : Int).toNat ≤ 35184372088832 then ((some (List.replicate (wrap64 ((wrap64 ((wrap64 (Int.tdiv a1 (ji24))) + 2)) * (wrap64 ((wrap64 (Int.tdiv a2 (ji24))) + 2))) : Int).toNat 0 : List Int)).bind fun y280 => (land_Grow.l1 k2 a1 a2 a3 x11_2 x12_2 ji24 (wrap64 ((wrap64 (Int.tdiv a1 (ji24))) + 2)) y280 (y280.length : Int) 0 x277000_2)) else (none)) else (none))) = some (r1, r2, r3, r4) := by first | (rw [hji24] at H; exact H) | (simp only [hji24] at H ⊢; exact H)
          have hji24_ : (IntKind.i64.wrap (1 * 2 ^ min x12_2.toNat 64)) = ji24 := hji24
          have hji24z : x12_2 ≤ 64 → (IntKind.i64.wrap (1 * 2 ^ x12_2.toNat)) = ji24 := shl_small hji24
          have hji24u : (IntKind.i64.wrap (2 ^ min x12_2.toNat 64)) = ji24 := by have h_ := hji24_; rw [Int.one_mul] at h_; exact h_
          have hji24v : x12_2 ≤ 64 → (IntKind.i64.wrap (2 ^ x12_2.toNat)) = ji24 := fun hle_ => by have h_ := hji24z hle_; rw [Int.one_mul] at h_; exact h_
          have hji24y : (wrap64 (1 * 2 ^ min x12_2.toNat 64)) = ji24 := (i64_w _).symm.trans hji24_
          have hji24x : x12_2 ≤ 64 → (wrap64 (1 * 2 ^ x12_2.toNat)) = ji24 := fun h_ => (i64_w _).symm.trans (hji24z h_)
          by_cases c25 : (ji24) = 0
          ·rw [if_pos c25] at H
           exact absurd H (by simp)
          ·rw [if_neg c25] at H
           have c25b0 : ((ji24) == 0) = false := beq_eq_false_iff_ne.mpr c25
           have c25b1 : ((ji24) != 0) = true := bne_iff_ne.mpr c25
           obtain ⟨ji26, hji26⟩ : ∃ j_ : Int, (wrap64 ((wrap64 ((wrap64 (Int.tdiv a1 (ji24))) + 2)) * (wrap64 ((wrap64 (Int.tdiv a2 (ji24))) + 2)))) = j_ := ⟨_, rfl⟩
           replace H : (if 0 ≤ (ji26) then (if (ji26 : Int).toNat ≤ 35184372088832 then ((some (List.replicate (ji26 : Int).toNat 0 : List Int)).bind fun y280 => (land_Grow.l1 k2 a1 a2 a3 x11_2 x12_2 ji24 (wrap64 ((wrap64 (Int.tdiv a1 (ji24))) + 2)) y280 (y280.length : Int) 0 x277000_2)) else (none)) else (none)) = some (r1, r2, r3, r4) := by first | (rw [hji26] at H; exact H) | (simp only [hji26] at H ⊢; exact H)
           have hji26w : (IntKind.i64.wrap ((wrap64 ((wrap64 (Int.tdiv a1 (ji24))) + 2)) * (wrap64 ((wrap64 (Int.tdiv a2 (ji24))) + 2)))) = ji26 := (i64_w _).trans hji26
           by_cases c27 : 0 ≤ (ji26)
           ·rw [if_pos c27] at H
            have c27b0 := eq_true c27
            have c27b1 : decide (0 ≤ (ji26)) = true := decide_eq_true c27
            clear c27
            by_cases c28 : (ji26 : Int).toNat ≤ 35184372088832
            ·rw [if_pos c28] at H
             have c28b0 := eq_true c28
             have c28b1 : decide ((ji26 : Int).toNat ≤ 35184372088832) = true := decide_eq_true c28
             clear c28
             obtain ⟨y280, hy280⟩ : ∃ y_ : List Int, y_ = (List.replicate (ji26 : Int).toNat 0) := ⟨_, rfl⟩
             replace H : (land_Grow.l1 k2 a1 a2 a3 x11_2 x12_2 ji24 (wrap64 ((wrap64 (Int.tdiv a1 (ji24))) + 2)) y280 (y280.length : Int) 0 x277000_2) = some (r1, r2, r3, r4) := by first | (rw [hy280]; with_reducible exact H) | (have H2_ := (Option.bind_some _ _).symm.trans H; rw [hy280]; with_reducible exact H2_) | (have H2_ := (Option.bind_some _ _).symm.trans H; with_reducible exact H2_) | with_reducible exact H | (rw [hy280]; exact H) | exact H
             have Ny280 := Aside0.mk hy280
             clear hy280
             have H' := Aside0.mk H
             clear H
             try go_wp2
             replace HO_11 := Aside0.mk (Kd.R_drew HO_11.out)
             replace BK273 := Aside0.mk (blk_drew BK273.out)
             replace BK276 := Aside0.mk (blk_drew BK276.out)
             replace HB := Aside0.mk (below_drew1 HB.out)
             refine start_ (n := 10) (S := fun w' => True) (ds := []) #[false, false, false, false, false, false, false, false, false, false] (by kernel_rfl) rfl rfl trivial (fun hHeld => ?_); refine with_tabW land_Grow.tab9 land_Grow.bits9 (fun HT_ HW_ => ?_)
             generalize wr.drew = w29 at HO_11 BK273 BK276 HB hHeld ⊢
             refine pure_ (i := 0) (N := some 52) (v := ?_) (a' := ?_) (bA 1 10) rfl rfl (any_of HT_.out (by kernel_rfl)) (fun _ _ _ h => h) (Or.inl ⟨by rfl, ?_⟩) ?_ ?_; rotate_left; (intro w'; go_simp; with_reducible rfl); rotate_left; (simp only [Act.put, sI_, s0_, sS_, i64_w, i32_w]; rfl)
             refine pure_ (i := 1) (N := some 53) (v := ?_) (a' := ?_) (bA 2 10) rfl rfl (any_of HT_.out (by kernel_rfl)) (fun _ _ _ h => h) (Or.inl ⟨by rfl, ?_⟩) ?_ ?_; rotate_left; (intro w'; go_simp; with_reducible rfl); rotate_left; (simp only [Act.put, sI_, s0_, sS_, i64_w, i32_w]; rfl)
             refine pure_ (i := 2) (N := some 54) (v := ?_) (a' := ?_) (bA 3 10) rfl rfl (any_of HT_.out (by kernel_rfl)) (fun _ _ _ h => h) (Or.inl ⟨by rfl, ?_⟩) ?_ ?_; rotate_left; (intro w'; go_simp; with_reducible rfl); rotate_left; (simp only [Act.put, sI_, s0_, sS_, i64_w, i32_w]; rfl)
             refine pure_ (i := 3) (N := some 55) (v := ?_) (a' := ?_) (bA 4 10) rfl rfl (any_of HT_.out (by kernel_rfl)) (fun _ _ _ h => h) (Or.inl ⟨by rfl, ?_⟩) ?_ ?_; rotate_left; (intro w'; go_simp; with_reducible rfl); rotate_left; (simp only [Act.put, sI_, s0_, sS_, i64_w, i32_w]; rfl)
             refine pure_ (i := 4) (N := some 56) (v := ?_) (a' := ?_) (bA 5 10) rfl rfl (any_of HT_.out (by kernel_rfl)) (fun _ _ _ h => h) (Or.inl ⟨by rfl, ?_⟩) ?_ ?_; rotate_left; (intro w'; go_simp; with_reducible rfl); rotate_left; (simp only [Act.put, sI_, s0_, sS_, i64_w, i32_w]; rfl)
             refine pure_ (i := 5) (N := some 57) (v := ?_) (a' := ?_) (bA 6 10) rfl rfl (any_of HT_.out (by kernel_rfl)) (fun _ _ _ h => h) (Or.inl ⟨by rfl, ?_⟩) ?_ ?_; rotate_left; (intro w'; go_simp; with_reducible rfl); rotate_left; (simp only [Act.put, sI_, s0_, sS_, i64_w, i32_w]; rfl)
             refine pure_ (i := 6) (N := some 58) (v := ?_) (a' := ?_) (bA 7 10) rfl rfl (any_of HT_.out (by kernel_rfl)) (fun _ _ _ h => h) (Or.inl ⟨by rfl, ?_⟩) ?_ ?_; rotate_left; (intro w'; go_simp; with_reducible rfl); rotate_left; (simp only [Act.put, sI_, s0_, sS_, i64_w, i32_w]; rfl)
             refine pure_ (i := 7) (N := some 59) (v := ?_) (a' := ?_) (bA 8 10) rfl rfl (any_of HT_.out (by kernel_rfl)) (fun _ _ _ h => h) (Or.inl ⟨by rfl, ?_⟩) ?_ ?_; rotate_left; (intro w'; go_simp; with_reducible rfl); rotate_left; (simp only [Act.put, sI_, s0_, sS_, i64_w, i32_w]; rfl)
             refine pure_ (i := 8) (N := some 14) (v := ?_) (a' := ?_) (bA 9 10) rfl rfl (any_of HT_.out (by kernel_rfl)) (fun _ _ _ h => h) (Or.inl ⟨by rfl, ?_⟩) ?_ ?_; rotate_left; (intro w'; go_simp; with_reducible rfl); rotate_left; (simp only [Act.put, sI_, s0_, sS_, i64_w, i32_w]; rfl)
             refine pure_ (i := 9) (N := some 15) (v := ?_) (a' := ?_) (bA 10 10) rfl rfl (any_of HT_.out (by kernel_rfl)) (fun _ _ _ h => h) (Or.inl ⟨by rfl, ?_⟩) ?_ ?_; rotate_left; (intro w'; go_simp; with_reducible rfl); rotate_left; (simp only [Act.put, sI_, s0_, sS_, i64_w, i32_w]; rfl)
             refine done_ (done_of HT_.out (by kernel_rfl)) ?_
             try go_wp2_with (first | ((with_reducible refine gate_dst (N := 63) rfl ?_); refine Kd.R_make (Kd.int .i64) _ 3 rfl (N := 63) rfl 22 _ _ rfl ji26 rfl rfl Try.underlying22 (.int .i64 0) 8 info3 rfl (by decide) (by omega) 0 (ok := fun _ => True) (okp := fun _ => True) rfl (fun _ hk => hk) trivial (of_decide_eq_true tW_) (Nat.le_trans (Nat.mul_le_mul_right _ (of_decide_eq_true tW_ : ji26.toNat ≤ 35184372088832)) (by omega)) (Below.refl _ _) (Nat.le_refl _) ?_; intro v281 w30 ho31 hb hg_ hnew_; clear hg_ hnew_; (first | rw [← Ny280.out] at ho31 | (simp only [Int.reduceToNat] at ho31; rw [← Ny280.out] at ho31)); have HO282 := Aside0.mk (Kd.R_lower (Kd.R_new' ho31 (Kd.R_lt (dR_ HO_11))) (below_size (dL2_ HB GE273 GE276))); replace HO_11 := Aside0.mk (Kd.R_elder' (dR_ HO_11) (Kd.R_base ho31) hb); replace BK273 := Aside0.mk (blk_below (g := gb273) (o := .cells #[.int .i64 0, .int .i64 0, .slice none 0 0] 24 (0, 0)) (dB_ BK273) hb); replace BK276 := Aside0.mk (blk_below (g := gb276) (o := .cells #[.int .u64 x277000_2] 52 (0, 0)) (dB_ BK276) hb); replace HB := Aside0.mk (below_step (dL2_ HB GE273 GE276) hb); clear hb ho31; obtain ⟨Ao32, co32, eo32⟩ := Kd.R_slice HO282.out; subst eo32))
             go_loopg [66] k2 (fun kq v66 w' => ∃ (x16_3 : List Int) (x66_3 : Int) (x277000_3 : Int), v66 = .int .i64 x66_3 ∧ Aside0 (land_Grow.l1 kq a1 a2 a3 x11_2 x12_2 ji24 (wrap64 ((wrap64 (Int.tdiv a1 (ji24))) + 2)) x16_3 (y280.length : Int) x66_3 x277000_3 = some (r1, r2, r3, r4)) ∧ Aside0 (kq ≤ k2) ∧ Aside0 (Kd.R (Kd.int .i64) 3 w' w.heap.size (fun k_ => some k_ ≠ ((.slice Ao32 y280.length co32) : Value).ownBlock) v278 x11_2) ∧ Aside0 (Kd.R (Kd.int .i64) 3 w' w.heap.size (fun k_ => some k_ ≠ (v278 : Value).ownBlock) (.slice Ao32 y280.length co32) x16_3) ∧ Aside0 (w'.heap[gb273]? = some (.cells #[.int .i64 0, .int .i64 0, (.slice none 0 0)] 24 (0, 0))) ∧ Aside0 (w'.heap[gb276]? = some (.cells #[.int .u64 x277000_3] 52 (0, 0))) ∧ Aside0 (Below w.heap.size w w'))
             case atStart => exact ⟨(y280), (0), (x277000_2), tS_, H', ⟨Nat.le_refl _⟩, ⟨by (with_reducible repeat (first | apply Kd.R_alloc | apply Kd.R_drewN | apply Kd.R_drew)); exact Kd.R_mono HO_11.out (fun _ hk => hk.2)⟩, ⟨by (with_reducible repeat (first | apply Kd.R_alloc | apply Kd.R_drewN | apply Kd.R_drew)); exact Kd.R_mono HO282.out (fun _ hk => hk.2)⟩, ⟨dB_ BK273⟩, ⟨dB_ BK276⟩, ⟨dL2_ HB GE273 GE276⟩⟩
             case round =>
              clear H'
              try clear c9
              try clear c10
              try clear c14
              try clear c14b0
              try clear c14b1
              try clear c15
              try clear c15b0
              try clear c15b1
              try clear c22
              try clear c22b0
              try clear c23
              try clear c23b0
              try clear c23b1
              try clear c25
              try clear c25b0
              try clear c25b1
              try clear c27
              try clear c27b0
              try clear c27b1
              try clear c28
              try clear c28b0
              try clear c28b1
              try clear hcz19_0
              try clear hfz19_0
              obtain ⟨x16_3, x66_3, x277000_3, rfl, HA, HK3, HO_11, HO_16, BK273, BK276, HB⟩ := hrel
              have hl16_3 := (Kd.R_reads' HO_16.out).1
              rw [hl16_3] at HO_16
              (try simp only [hl16_3])
              (try simp only [hl16_3] at BK273)
              (try simp only [hl16_3] at BK276)
              (try simp only [hl16_3] at HO_11)
              cases gk with
              | zero => exact absurd HA.out (by simp [land_Grow.l1])
              | succ k3 =>
               have H := HA.out
               clear HA
               simp only [land_Grow.l1] at H
               by_cases c33 : x66_3 < (y280.length : Int)
               ·rw [if_pos c33] at H
                have c33b0 : decide (x66_3 < (y280.length : Int)) = true := decide_eq_true c33
                clear c33
                (try (have c33y0 := c33b0; simp only [hl16_3] at c33y0))
                (try (have c33y1 := c33b1; simp only [hl16_3] at c33y1))
                (try (have c33y2 := c33b2; simp only [hl16_3] at c33y2))
                replace H := Option.bind_eq_some_iff.mp H
                obtain ⟨⟨t283, t284⟩, A340, H⟩ := H
                replace H : (if 0 ≤ x66_3 then (if x66_3 < (x16_3.length : Int) then (land_Grow.l1 k3 a1 a2 a3 x11_2 x12_2 ji24 (wrap64 ((wrap64 (Int.tdiv a1 (ji24))) + 2)) (x16_3.set (x66_3 : Int).toNat t283) (y280.length : Int) (wrap64 (x66_3 + 1)) t284) else (none)) else (none)) = some (r1, r2, r3, r4) := H
                have A34 := Aside0.mk A340
                clear A340
                by_cases c35 : 0 ≤ x66_3
                ·rw [if_pos c35] at H
                 have c35b0 : decide (0 ≤ x66_3) = true := decide_eq_true c35
                 clear c35
                 (try (have c35y0 := c35b0; simp only [hl16_3] at c35y0))
                 (try (have c35y1 := c35b1; simp only [hl16_3] at c35y1))
                 (try (have c35y2 := c35b2; simp only [hl16_3] at c35y2))
                 by_cases c36 : x66_3 < (x16_3.length : Int)
                 ·rw [if_pos c36] at H
                  have c36b0 : decide (x66_3 < (x16_3.length : Int)) = true := decide_eq_true c36
                  clear c36
                  (try (have c36y0 := c36b0; simp only [hl16_3] at c36y0))
                  (try (have c36y1 := c36b1; simp only [hl16_3] at c36y1))
                  (try (have c36y2 := c36b2; simp only [hl16_3] at c36y2))
                  obtain ⟨y285, hy285⟩ : ∃ y_ : List Int, y_ = (x16_3.set (x66_3 : Int).toNat t283) := ⟨_, rfl⟩
                  replace H : (land_Grow.l1 k3 a1 a2 a3 x11_2 x12_2 ji24 (wrap64 ((wrap64 (Int.tdiv a1 (ji24))) + 2)) y285 (y280.length : Int) (wrap64 (x66_3 + 1)) t284) = some (r1, r2, r3, r4) := by first | (rw [hy285]; with_reducible exact H) | (have H2_ := (Option.bind_some _ _).symm.trans H; rw [hy285]; with_reducible exact H2_) | (have H2_ := (Option.bind_some _ _).symm.trans H; with_reducible exact H2_) | with_reducible exact H | (rw [hy285]; exact H) | exact H
                  have Ny285 := Aside0.mk hy285
                  clear hy285
                  have H' := Aside0.mk H
                  clear H
                  have hnb38 := NB276_273.out
                  have hnc38 := NB273_276.out
                  have hcz39_0 : wr.cell? ⟨gb276, 0, none⟩ = some (.int .u64 x277000_3) := (blk_cell BK276.out 0).trans rfl
                  have hfz39_0 := blk_frozen BK276.out 0
                  go_wp2_with (first | ((with_reducible refine gate_callee (f := 25) rfl ?_); refine goesL_ (some 77) rfl rfl Try.func25 (by kernel_rfl) rfl #[.agg #[.int .u64 x277000_3], .int .i64 (wrap64 ((wrap64 (a3 * ji24)) + 1))] rfl (by (try simp only [List.map_toArray, List.map_cons, List.map_nil]); first | done | (simp only [hji24]; rfl) | rfl | (simp only [List.length_drop, List.length_take]; rfl)) ?_; (with_reducible refine (roll_Below.calls k3 x277000_3 (wrap64 ((wrap64 (a3 * ji24)) + 1)) t283 t284 _ A34.out).mono ?_); rintro e w40 ⟨rfl, hb⟩; refine ⟨_, rfl, ?_⟩; replace HO_11 := Aside0.mk (Kd.R_below (dR_ HO_11) hb); replace HO_16 := Aside0.mk (Kd.R_below (dR_ HO_16) hb); replace BK273 := Aside0.mk (blk_below (g := gb273) (o := .cells #[.int .i64 0, .int .i64 0, .slice none 0 0] 24 (0, 0)) (dB_ BK273) hb); replace BK276 := Aside0.mk (blk_below (g := gb276) (o := .cells #[.int .u64 x277000_3] 52 (0, 0)) (dB_ BK276) hb); replace HB := Aside0.mk (below_step (dL2_ HB GE273 GE276) hb); have p37 : 0 ≤ (x66_3 : Int) := of_decide_eq_true tW_; have q37 : (x66_3 : Int) < ((x16_3.length : Int) : Int) := of_decide_eq_true tW_; obtain ⟨go37, co37, eo37, gb37, gl37, cl37, HG37⟩ := Kd.R_form HO_16.out (by omega); (first | cases eo37 | (injection eo37 with ea_ en_ ec_; (first | subst ea_ | (injection ea_ with ea_; subst ea_)); subst ec_; clear en_)); have GB37 := Aside0.mk gb37; have GG37 := Aside0.mk HG37; clear gb37 gl37 HG37; obtain ⟨hx37_0, hf37_0⟩ := Kd.R_celln 0 HO_16.out (x66_3 : Int) p37 q37; replace p37 := eq_true p37; replace q37 := eq_true q37; obtain ⟨hy41_, hz41_⟩ := Kd.R_celln 0 HO_16.out (x66_3 : Int) (of_decide_eq_true tW_) (of_decide_eq_true tW_); have HP41 := Kd.R_putg HO_16.out (x66_3 : Int) t283) | ((with_reducible refine gate_store (t := 3) (p := 80) rfl ?_); refine store_event (t := 3) (p := 80) (v := ?vo_w42) (w1 := (w40.setCell ⟨go37, (x66_3 : Int).toNat, none⟩ (.int .i64 t283))) ?hg ?ho ?hn ?hr ?_; (case ho => rfl); (case hg => rfl); (case hn => rfl); (case hr => first | (go_simp; done) | (go_simp; rfl)); intro w42 hw; have hg : w40.grownBy w42 (some go37) := (by rw [hw]; exact HP41.2); have hp_ : Kd.R (Kd.int .i64) 3 w42 w.heap.size (fun k_ => some k_ ≠ (v278 : Value).ownBlock) (.slice (some ⟨go37, 0, none⟩) x16_3.length co32) y285 := (by rw [hw, Ny285.out]; exact HP41.1); clear HP41; replace HO_11 := Aside0.mk (Kd.R_after (v := (.slice (some ⟨go37, 0, none⟩) x16_3.length co32)) (v1 := (.slice (some ⟨go37, 0, none⟩) x16_3.length co32)) (ok := (fun _ => True)) (by (with_reducible repeat (first | apply Kd.R_alloc | apply Kd.R_drewN | apply Kd.R_drew)); exact Kd.R_mono HO_11.out (fun _ hk => ⟨trivial, hk⟩)) hg (.inl rfl)); replace BK273 := Aside0.mk (blk_grown (g := gb273) (o := .cells #[.int .i64 0, .int .i64 0, .slice none 0 0] 24 (0, 0)) (dB_ BK273) hg (Kd.R_ne HO_16.out BK273.out (by decide))); replace BK276 := Aside0.mk (blk_grown (g := gb276) (o := .cells #[.int .u64 x277000_3] 52 (0, 0)) (dB_ BK276) hg (Kd.R_ne HO_16.out BK276.out (by decide))); replace HO_16 := Aside0.mk (hp_); replace HB := Aside0.mk ((by rw [hw]; exact below_set (HB.out) GB37.out : Below w.heap.size w w42)); clear hg hw hp_; have hcz43_0 : w42.cell? ⟨gb276, 0, none⟩ = some (.int .u64 x277000_3) := (blk_cell BK276.out 0).trans rfl; have hfz43_0 := blk_frozen BK276.out 0))
                  (try simp only [← hl16_3])
                  go_roundg k3
                  case measure => have := HJ4.out; have := HK2.out; have := HK3.out; omega
                  case rel => exact ⟨(y285), (wrap64 (x66_3 + 1)), (t284), tS_, H', ⟨by have := HJ4.out; have := HK2.out; have := HK3.out; omega⟩, ⟨by (try simp only [hl16_3]); (with_reducible repeat (first | apply Kd.R_alloc | apply Kd.R_drewN | apply Kd.R_drew)); exact Kd.R_mono (Kd.R_far (p := ⟨gb276, 0, none⟩) (Kd.R_types HO_11.out BK276.out (by decide)) (fun _ hk => hk.2) (.int .u64 t284)) (fun _ hk => hk.1.2)⟩, ⟨by (try simp only [hl16_3]); (with_reducible repeat (first | apply Kd.R_alloc | apply Kd.R_drewN | apply Kd.R_drew)); exact Kd.R_mono (Kd.R_far (p := ⟨gb276, 0, none⟩) (Kd.R_types HO_16.out BK276.out (by decide)) (fun _ hk => hk.2) (.int .u64 t284)) (fun _ hk => hk.1)⟩, ⟨by (try simp only [hl16_3]); (with_reducible repeat (first | refine blk_drewN ?_ _ | refine blk_drew ?_ | refine blk_alloc ?_ _)); refine blk_far ?_ NB273_276.out _; (with_reducible repeat (first | refine blk_drewN ?_ _ | refine blk_drew ?_ | refine blk_alloc ?_ _)); exact BK273.out⟩, ⟨by (try simp only [hl16_3]); (with_reducible repeat (first | refine blk_drewN ?_ _ | refine blk_drew ?_ | refine blk_alloc ?_ _)); refine blk_put (cs := #[.int .u64 x277000_3]) ?_ 0 _ rfl; (with_reducible repeat (first | refine blk_drewN ?_ _ | refine blk_drew ?_ | refine blk_alloc ?_ _)); exact BK276.out⟩, ⟨dL2_ HB GE273 GE276⟩⟩
                 ·rw [if_neg c36] at H
                  exact absurd H (by simp)
                ·rw [if_neg c35] at H
                 exact absurd H (by simp)
               ·rw [if_neg c33] at H
                have c33b0 : decide (x66_3 < (y280.length : Int)) = false := decide_eq_false c33
                clear c33
                (try (have c33y0 := c33b0; simp only [hl16_3] at c33y0))
                (try (have c33y1 := c33b1; simp only [hl16_3] at c33y1))
                (try (have c33y2 := c33b2; simp only [hl16_3] at c33y2))
                have H' := Aside0.mk H
                clear H
                go_wp2
                go_loopg [18] k3 (fun kq v18 w' => ∃ (x11_4 : List Int) (x18_4 : Int), v18 = .int .i64 x18_4 ∧ Aside0 (land_Grow.l2 kq a1 a2 a3 x11_4 x12_2 ji24 (wrap64 ((wrap64 (Int.tdiv a1 (ji24))) + 2)) x16_3 x18_4 x277000_3 = some (r1, r2, r3, r4)) ∧ Aside0 (kq ≤ k3) ∧ Aside0 (Kd.R (Kd.int .i64) 3 w' w.heap.size (fun k_ => some k_ ≠ ((.slice Ao32 x16_3.length co32) : Value).ownBlock) v278 x11_4) ∧ Aside0 (Kd.R (Kd.int .i64) 3 w' w.heap.size (fun k_ => some k_ ≠ (v278 : Value).ownBlock) (.slice Ao32 x16_3.length co32) x16_3) ∧ Aside0 (w'.heap[gb273]? = some (.cells #[.int .i64 0, .int .i64 0, (.slice none 0 0)] 24 (0, 0))) ∧ Aside0 (w'.heap[gb276]? = some (.cells #[.int .u64 x277000_3] 52 (0, 0))) ∧ Aside0 (Below w.heap.size w w'))
                case atStart => exact ⟨(x11_2), (0), tS_, H', ⟨Nat.le_refl _⟩, ⟨by (try simp only [hl16_3]); (with_reducible repeat (first | apply Kd.R_alloc | apply Kd.R_drewN | apply Kd.R_drew)); exact HO_11.out⟩, ⟨by (try simp only [hl16_3]); (with_reducible repeat (first | apply Kd.R_alloc | apply Kd.R_drewN | apply Kd.R_drew)); exact HO_16.out⟩, ⟨by (try simp only [hl16_3]); (with_reducible repeat (first | refine blk_drewN ?_ _ | refine blk_drew ?_ | refine blk_alloc ?_ _)); exact BK273.out⟩, ⟨by (try simp only [hl16_3]); (with_reducible repeat (first | refine blk_drewN ?_ _ | refine blk_drew ?_ | refine blk_alloc ?_ _)); exact BK276.out⟩, ⟨dL2_ HB GE273 GE276⟩⟩
                case round =>
                 clear H'
                 try clear c9
                 try clear c10
                 try clear c14
                 try clear c14b0
                 try clear c14b1
                 try clear c15
                 try clear c15b0
                 try clear c15b1
                 try clear c22
                 try clear c22b0
                 try clear c23
                 try clear c23b0
                 try clear c23b1
                 try clear c25
                 try clear c25b0
                 try clear c25b1
                 try clear c27
                 try clear c27b0
                 try clear c27b1
                 try clear c28
                 try clear c28b0
                 try clear c28b1
                 try clear c33
                 try clear c33b0
                 try clear c33b1
                 try clear c33b2
                 try clear c35
                 try clear c35b1
                 try clear c35b2
                 try clear c36
                 try clear c36b1
                 try clear c36b2
                 try clear hcz19_0
                 try clear hfz19_0
                 obtain ⟨x11_4, x18_4, rfl, HA, HK4, HO_11, HO_16, BK273, BK276, HB⟩ := hrel
                 cases gk with
                 | zero => exact absurd HA.out (by simp [land_Grow.l2])
                 | succ k4 =>
                  have H := HA.out
                  clear HA
                  simp only [land_Grow.l2] at H
                  by_cases c44 : x18_4 ≤ a2
                  ·rw [if_pos c44] at H
                   have c44b0 : decide (x18_4 ≤ a2) = true := decide_eq_true c44
                   clear c44
                   (try (have c44y0 := c44b0; simp only [hl16_3] at c44y0))
                   (try (have c44y1 := c44b1; simp only [hl16_3] at c44y1))
                   (try (have c44y2 := c44b2; simp only [hl16_3] at c44y2))
                   have H' := Aside0.mk H
                   clear H
                   go_wp2
                   go_loopg [19] k4 (fun kq v19 w' => ∃ (x11_5 : List Int) (x19_5 : Int), v19 = .int .i64 x19_5 ∧ Aside0 (land_Grow.l3 kq a1 a2 a3 x11_5 x12_2 ji24 (wrap64 ((wrap64 (Int.tdiv a1 (ji24))) + 2)) x16_3 x18_4 x19_5 x277000_3 = some (r1, r2, r3, r4)) ∧ Aside0 (kq ≤ k4) ∧ Aside0 (Kd.R (Kd.int .i64) 3 w' w.heap.size (fun k_ => some k_ ≠ ((.slice Ao32 x16_3.length co32) : Value).ownBlock) v278 x11_5) ∧ Aside0 (Kd.R (Kd.int .i64) 3 w' w.heap.size (fun k_ => some k_ ≠ (v278 : Value).ownBlock) (.slice Ao32 x16_3.length co32) x16_3) ∧ Aside0 (w'.heap[gb273]? = some (.cells #[.int .i64 0, .int .i64 0, (.slice none 0 0)] 24 (0, 0))) ∧ Aside0 (w'.heap[gb276]? = some (.cells #[.int .u64 x277000_3] 52 (0, 0))) ∧ Aside0 (Below w.heap.size w w'))
                   case atStart => exact ⟨(x11_4), (0), tS_, H', ⟨Nat.le_refl _⟩, ⟨by (try simp only [hl16_3]); (with_reducible repeat (first | apply Kd.R_alloc | apply Kd.R_drewN | apply Kd.R_drew)); exact HO_11.out⟩, ⟨by (try simp only [hl16_3]); (with_reducible repeat (first | apply Kd.R_alloc | apply Kd.R_drewN | apply Kd.R_drew)); exact HO_16.out⟩, ⟨by (try simp only [hl16_3]); (with_reducible repeat (first | refine blk_drewN ?_ _ | refine blk_drew ?_ | refine blk_alloc ?_ _)); exact BK273.out⟩, ⟨by (try simp only [hl16_3]); (with_reducible repeat (first | refine blk_drewN ?_ _ | refine blk_drew ?_ | refine blk_alloc ?_ _)); exact BK276.out⟩, ⟨dL2_ HB GE273 GE276⟩⟩
                   case round =>
                    clear H'
                    try clear c9
                    try clear c10
                    try clear c14
                    try clear c14b0
                    try clear c14b1
                    try clear c15
                    try clear c15b0
                    try clear c15b1
                    try clear c22
                    try clear c22b0
                    try clear c23
                    try clear c23b0
                    try clear c23b1
                    try clear c25
                    try clear c25b0
                    try clear c25b1
                    try clear c27
                    try clear c27b0
                    try clear c27b1
                    try clear c28
                    try clear c28b0
                    try clear c28b1
                    try clear c33
                    try clear c33b0
                    try clear c33b1
                    try clear c33b2
                    try clear c35
                    try clear c35b1
                    try clear c35b2
                    try clear c36
                    try clear c36b1
                    try clear c36b2
                    try clear c44
                    try clear c44b0
                    try clear c44b1
                    try clear c44b2
                    try clear hcz19_0
                    try clear hfz19_0
                    obtain ⟨x11_5, x19_5, rfl, HA, HK5, HO_11, HO_16, BK273, BK276, HB⟩ := hrel
                    cases gk with
                    | zero => exact absurd HA.out (by simp [land_Grow.l3])
                    | succ k5 =>
                     have H := HA.out
                     clear HA
                     simp only [land_Grow.l3] at H
                     by_cases c45 : x19_5 ≤ a1
                     ·rw [if_pos c45] at H
                      have c45b0 : decide (x19_5 ≤ a1) = true := decide_eq_true c45
                      clear c45
                      (try (have c45y0 := c45b0; simp only [hl16_3] at c45y0))
                      (try (have c45y1 := c45b1; simp only [hl16_3] at c45y1))
                      (try (have c45y2 := c45b2; simp only [hl16_3] at c45y2))
                      by_cases c46 : ji24 = 0
                      ·rw [if_pos c46] at H
                       exact absurd H (by simp)
                      ·rw [if_neg c46] at H
                       have c46b0 : (ji24 == 0) = false := beq_eq_false_iff_ne.mpr c46
                       have c46b1 : (ji24 != 0) = true := bne_iff_ne.mpr c46
                       (try (have c46y0 := c46b0; simp only [hl16_3] at c46y0))
                       (try (have c46y1 := c46b1; simp only [hl16_3] at c46y1))
                       (try (have c46y2 := c46b2; simp only [hl16_3] at c46y2))
                       obtain ⟨ji47, hji47⟩ : ∃ j_ : Int, (wrap64 ((wrap64 ((wrap64 (Int.tdiv x18_4 ji24)) * (wrap64 ((wrap64 (Int.tdiv a1 (ji24))) + 2)))) + (wrap64 (Int.tdiv x19_5 ji24)))) = j_ := ⟨_, rfl⟩
                       replace H : (if 0 ≤ (ji47) then (if (ji47) < (x16_3.length : Int) then (if 0 ≤ (wrap64 ((ji47) + 1)) then (if (wrap64 ((ji47) + 1)) < (x16_3.length : Int) then (if 0 ≤ (wrap64 ((ji47) + (wrap64 ((wrap64 (Int.tdiv a1 (ji24))) + 2)))) then (if (wrap64 ((ji47) + (wrap64 ((wrap64 (Int.tdiv a1 (ji24))) + 2)))) < (x16_3.length : Int) then (if 0 ≤ (wrap64 ((wrap64 ((ji47) + (wrap64 ((wrap64 (Int.tdiv a1 (ji24))) + 2)))) + 1)) then (if (wrap64 ((wrap64 ((ji47) + (wrap64 ((wrap64 (Int.tdiv a1 (ji24))) + 2)))) + 1)) < (x16_3.length : Int) then (if 0 ≤ (wrap64 ((wrap64 (x18_4 * (wrap64 (a1 + 1)))) + x19_5)) then (if (wrap64 ((wrap64 (x18_4 * (wrap64 (a1 + 1)))) + x19_5)) < (x11_5.length : Int) then (if (wrap64 (ji24 * ji24)) = 0 then (none) else (land_Grow.l3 k5 a1 a2 a3 (x11_5.set ((wrap64 ((wrap64 (x18_4 * (wrap64 (a1 + 1)))) + x19_5)) : Int).toNat (wrap64 ((rd x11_5 (wrap64 ((wrap64 (x18_4 * (wrap64 (a1 + 1)))) + x19_5))) + (wrap64 (Int.tdiv (wrap64 ((wrap64 ((wrap64 ((wrap64 ((wrap64 ((rd x16_3 (ji47)) * (wrap64 (ji24 - (Int.tmod x19_5 ji24))))) * (wrap64 (ji24 - (Int.tmod x18_4 ji24))))) + (wrap64 ((wrap64 ((rd x16_3 (wrap64 ((ji47) + 1))) * (Int.tmod x19_5 ji24))) * (wrap64 (ji24 - (Int.tmod x18_4 ji24))))))) + (wrap64 ((wrap64 ((rd x16_3 (wrap64 ((ji47) + (wrap64 ((wrap64 (Int.tdiv a1 (ji24))) + 2))))) * (wrap64 (ji24 - (Int.tmod x19_5 ji24))))) * (Int.tmod x18_4 ji24))))) + (wrap64 ((wrap64 ((rd x16_3 (wrap64 ((wrap64 ((ji47) + (wrap64 ((wrap64 (Int.tdiv a1 (ji24))) + 2)))) + 1))) * (Int.tmod x19_5 ji24))) * (Int.tmod x18_4 ji24))))) (wrap64 (ji24 * ji24))))))) x12_2 ji24 (wrap64 ((wrap64 (Int.tdiv a1 (ji24))) + 2)) x16_3 x18_4 (wrap64 (x19_5 + 1)) x277000_3)) else (none)) else (none)) else (none)) else (none)) else (none)) else (none)) else (none)) else (none)) else (none)) else (none)) = some (r1, r2, r3, r4) := by first | (rw [hji47] at H; exact H) | (simp only [hji47] at H ⊢; exact H)
                       have hji47w : (IntKind.i64.wrap ((wrap64 ((wrap64 (Int.tdiv x18_4 ji24)) * (wrap64 ((wrap64 (Int.tdiv a1 (ji24))) + 2)))) + (wrap64 (Int.tdiv x19_5 ji24)))) = ji47 := (i64_w _).trans hji47
                       by_cases c48 : 0 ≤ (ji47)
                       ·rw [if_pos c48] at H
                        have c48b0 : decide (0 ≤ (ji47)) = true := decide_eq_true c48
                        clear c48
                        (try (have c48y0 := c48b0; simp only [hl16_3] at c48y0))
                        (try (have c48y1 := c48b1; simp only [hl16_3] at c48y1))
                        (try (have c48y2 := c48b2; simp only [hl16_3] at c48y2))
                        by_cases c49 : (ji47) < (x16_3.length : Int)
                        ·rw [if_pos c49] at H
                         have c49b0 : decide ((ji47) < (x16_3.length : Int)) = true := decide_eq_true c49
                         clear c49
                         (try (have c49y0 := c49b0; simp only [hl16_3] at c49y0))
                         (try (have c49y1 := c49b1; simp only [hl16_3] at c49y1))
                         (try (have c49y2 := c49b2; simp only [hl16_3] at c49y2))
                         obtain ⟨ji50, hji50⟩ : ∃ j_ : Int, (wrap64 ((ji47) + 1)) = j_ := ⟨_, rfl⟩
                         replace H : (if 0 ≤ (ji50) then (if (ji50) < (x16_3.length : Int) then (if 0 ≤ (wrap64 ((ji47) + (wrap64 ((wrap64 (Int.tdiv a1 (ji24))) + 2)))) then (if (wrap64 ((ji47) + (wrap64 ((wrap64 (Int.tdiv a1 (ji24))) + 2)))) < (x16_3.length : Int) then (if 0 ≤ (wrap64 ((wrap64 ((ji47) + (wrap64 ((wrap64 (Int.tdiv a1 (ji24))) + 2)))) + 1)) then (if (wrap64 ((wrap64 ((ji47) + (wrap64 ((wrap64 (Int.tdiv a1 (ji24))) + 2)))) + 1)) < (x16_3.length : Int) then (if 0 ≤ (wrap64 ((wrap64 (x18_4 * (wrap64 (a1 + 1)))) + x19_5)) then (if (wrap64 ((wrap64 (x18_4 * (wrap64 (a1 + 1)))) + x19_5)) < (x11_5.length : Int) then (if (wrap64 (ji24 * ji24)) = 0 then (none) else (land_Grow.l3 k5 a1 a2 a3 (x11_5.set ((wrap64 ((wrap64 (x18_4 * (wrap64 (a1 + 1)))) + x19_5)) : Int).toNat (wrap64 ((rd x11_5 (wrap64 ((wrap64 (x18_4 * (wrap64 (a1 + 1)))) + x19_5))) + (wrap64 (Int.tdiv (wrap64 ((wrap64 ((wrap64 ((wrap64 ((wrap64 ((rd x16_3 (ji47)) * (wrap64 (ji24 - (Int.tmod x19_5 ji24))))) * (wrap64 (ji24 - (Int.tmod x18_4 ji24))))) + (wrap64 ((wrap64 ((rd x16_3 (ji50)) * (Int.tmod x19_5 ji24))) * (wrap64 (ji24 - (Int.tmod x18_4 ji24))))))) + (wrap64 ((wrap64 ((rd x16_3 (wrap64 ((ji47) + (wrap64 ((wrap64 (Int.tdiv a1 (ji24))) + 2))))) * (wrap64 (ji24 - (Int.tmod x19_5 ji24))))) * (Int.tmod x18_4 ji24))))) + (wrap64 ((wrap64 ((rd x16_3 (wrap64 ((wrap64 ((ji47) + (wrap64 ((wrap64 (Int.tdiv a1 (ji24))) + 2)))) + 1))) * (Int.tmod x19_5 ji24))) * (Int.tmod x18_4 ji24))))) (wrap64 (ji24 * ji24))))))) x12_2 ji24 (wrap64 ((wrap64 (Int.tdiv a1 (ji24))) + 2)) x16_3 x18_4 (wrap64 (x19_5 + 1)) x277000_3)) else (none)) else (none)) else (none)) else (none)) else (none)) else (none)) else (none)) else (none)) = some (r1, r2, r3, r4) := by first | (rw [hji50] at H; exact H) | (simp only [hji50] at H ⊢; exact H)
                         have hji50w : (IntKind.i64.wrap ((ji47) + 1)) = ji50 := (i64_w _).trans hji50
                         by_cases c51 : 0 ≤ (ji50)
                         ·rw [if_pos c51] at H
                          have c51b0 : decide (0 ≤ (ji50)) = true := decide_eq_true c51
                          clear c51
                          (try (have c51y0 := c51b0; simp only [hl16_3] at c51y0))
                          (try (have c51y1 := c51b1; simp only [hl16_3] at c51y1))
                          (try (have c51y2 := c51b2; simp only [hl16_3] at c51y2))
                          by_cases c52 : (ji50) < (x16_3.length : Int)
                          ·rw [if_pos c52] at H
                           have c52b0 : decide ((ji50) < (x16_3.length : Int)) = true := decide_eq_true c52
                           clear c52
                           (try (have c52y0 := c52b0; simp only [hl16_3] at c52y0))
                           (try (have c52y1 := c52b1; simp only [hl16_3] at c52y1))
                           (try (have c52y2 := c52b2; simp only [hl16_3] at c52y2))
                           obtain ⟨ji53, hji53⟩ : ∃ j_ : Int, (wrap64 ((ji47) + (wrap64 ((wrap64 (Int.tdiv a1 (ji24))) + 2)))) = j_ := ⟨_, rfl⟩
                           replace H : (if 0 ≤ (ji53) then (if (ji53) < (x16_3.length : Int) then (if 0 ≤ (wrap64 ((ji53) + 1)) then (if (wrap64 ((ji53) + 1)) < (x16_3.length : Int) then (if 0 ≤ (wrap64 ((wrap64 (x18_4 * (wrap64 (a1 + 1)))) + x19_5)) then (if (wrap64 ((wrap64 (x18_4 * (wrap64 (a1 + 1)))) + x19_5)) < (x11_5.length : Int) then (if (wrap64 (ji24 * ji24)) = 0 then (none) else (land_Grow.l3 k5 a1 a2 a3 (x11_5.set ((wrap64 ((wrap64 (x18_4 * (wrap64 (a1 + 1)))) + x19_5)) : Int).toNat (wrap64 ((rd x11_5 (wrap64 ((wrap64 (x18_4 * (wrap64 (a1 + 1)))) + x19_5))) + (wrap64 (Int.tdiv (wrap64 ((wrap64 ((wrap64 ((wrap64 ((wrap64 ((rd x16_3 (ji47)) * (wrap64 (ji24 - (Int.tmod x19_5 ji24))))) * (wrap64 (ji24 - (Int.tmod x18_4 ji24))))) + (wrap64 ((wrap64 ((rd x16_3 (ji50)) * (Int.tmod x19_5 ji24))) * (wrap64 (ji24 - (Int.tmod x18_4 ji24))))))) + (wrap64 ((wrap64 ((rd x16_3 (ji53)) * (wrap64 (ji24 - (Int.tmod x19_5 ji24))))) * (Int.tmod x18_4 ji24))))) + (wrap64 ((wrap64 ((rd x16_3 (wrap64 ((ji53) + 1))) * (Int.tmod x19_5 ji24))) * (Int.tmod x18_4 ji24))))) (wrap64 (ji24 * ji24))))))) x12_2 ji24 (wrap64 ((wrap64 (Int.tdiv a1 (ji24))) + 2)) x16_3 x18_4 (wrap64 (x19_5 + 1)) x277000_3)) else (none)) else (none)) else (none)) else (none)) else (none)) else (none)) = some (r1, r2, r3, r4) := by first | (rw [hji53] at H; exact H) | (simp only [hji53] at H ⊢; exact H)
                           have hji53w : (IntKind.i64.wrap ((ji47) + (wrap64 ((wrap64 (Int.tdiv a1 (ji24))) + 2)))) = ji53 := (i64_w _).trans hji53
                           by_cases c54 : 0 ≤ (ji53)
                           ·rw [if_pos c54] at H
                            have c54b0 : decide (0 ≤ (ji53)) = true := decide_eq_true c54
                            clear c54
                            (try (have c54y0 := c54b0; simp only [hl16_3] at c54y0))
                            (try (have c54y1 := c54b1; simp only [hl16_3] at c54y1))
                            (try (have c54y2 := c54b2; simp only [hl16_3] at c54y2))
                            by_cases c55 : (ji53) < (x16_3.length : Int)
                            ·rw [if_pos c55] at H
                             have c55b0 : decide ((ji53) < (x16_3.length : Int)) = true := decide_eq_true c55
                             clear c55
                             (try (have c55y0 := c55b0; simp only [hl16_3] at c55y0))
                             (try (have c55y1 := c55b1; simp only [hl16_3] at c55y1))
                             (try (have c55y2 := c55b2; simp only [hl16_3] at c55y2))
                             obtain ⟨ji56, hji56⟩ : ∃ j_ : Int, (wrap64 ((ji53) + 1)) = j_ := ⟨_, rfl⟩
                             replace H : (if 0 ≤ (ji56) then (if (ji56) < (x16_3.length : Int) then (if 0 ≤ (wrap64 ((wrap64 (x18_4 * (wrap64 (a1 + 1)))) + x19_5)) then (if (wrap64 ((wrap64 (x18_4 * (wrap64 (a1 + 1)))) + x19_5)) < (x11_5.length : Int) then (if (wrap64 (ji24 * ji24)) = 0 then (none) else (land_Grow.l3 k5 a1 a2 a3 (x11_5.set ((wrap64 ((wrap64 (x18_4 * (wrap64 (a1 + 1)))) + x19_5)) : Int).toNat (wrap64 ((rd x11_5 (wrap64 ((wrap64 (x18_4 * (wrap64 (a1 + 1)))) + x19_5))) + (wrap64 (Int.tdiv (wrap64 ((wrap64 ((wrap64 ((wrap64 ((wrap64 ((rd x16_3 (ji47)) * (wrap64 (ji24 - (Int.tmod x19_5 ji24))))) * (wrap64 (ji24 - (Int.tmod x18_4 ji24))))) + (wrap64 ((wrap64 ((rd x16_3 (ji50)) * (Int.tmod x19_5 ji24))) * (wrap64 (ji24 - (Int.tmod x18_4 ji24))))))) + (wrap64 ((wrap64 ((rd x16_3 (ji53)) * (wrap64 (ji24 - (Int.tmod x19_5 ji24))))) * (Int.tmod x18_4 ji24))))) + (wrap64 ((wrap64 ((rd x16_3 (ji56)) * (Int.tmod x19_5 ji24))) * (Int.tmod x18_4 ji24))))) (wrap64 (ji24 * ji24))))))) x12_2 ji24 (wrap64 ((wrap64 (Int.tdiv a1 (ji24))) + 2)) x16_3 x18_4 (wrap64 (x19_5 + 1)) x277000_3)) else (none)) else (none)) else (none)) else (none)) = some (r1, r2, r3, r4) := by first | (rw [hji56] at H; exact H) | (simp only [hji56] at H ⊢; exact H)
                             have hji56w : (IntKind.i64.wrap ((ji53) + 1)) = ji56 := (i64_w _).trans hji56
                             by_cases c57 : 0 ≤ (ji56)
                             ·rw [if_pos c57] at H
                              have c57b0 : decide (0 ≤ (ji56)) = true := decide_eq_true c57
                              clear c57
                              (try (have c57y0 := c57b0; simp only [hl16_3] at c57y0))
                              (try (have c57y1 := c57b1; simp only [hl16_3] at c57y1))
                              (try (have c57y2 := c57b2; simp only [hl16_3] at c57y2))
                              by_cases c58 : (ji56) < (x16_3.length : Int)
                              ·rw [if_pos c58] at H
                               have c58b0 : decide ((ji56) < (x16_3.length : Int)) = true := decide_eq_true c58
                               clear c58
                               (try (have c58y0 := c58b0; simp only [hl16_3] at c58y0))
                               (try (have c58y1 := c58b1; simp only [hl16_3] at c58y1))
                               (try (have c58y2 := c58b2; simp only [hl16_3] at c58y2))
                               obtain ⟨ji59, hji59⟩ : ∃ j_ : Int, (wrap64 ((wrap64 (x18_4 * (wrap64 (a1 + 1)))) + x19_5)) = j_ := ⟨_, rfl⟩
                               replace H : (if 0 ≤ (ji59) then (if (ji59) < (x11_5.length : Int) then (if (wrap64 (ji24 * ji24)) = 0 then (none) else (land_Grow.l3 k5 a1 a2 a3 (x11_5.set ((ji59) : Int).toNat (wrap64 ((rd x11_5 (ji59)) + (wrap64 (Int.tdiv (wrap64 ((wrap64 ((wrap64 ((wrap64 ((wrap64 ((rd x16_3 (ji47)) * (wrap64 (ji24 - (Int.tmod x19_5 ji24))))) * (wrap64 (ji24 - (Int.tmod x18_4 ji24))))) + (wrap64 ((wrap64 ((rd x16_3 (ji50)) * (Int.tmod x19_5 ji24))) * (wrap64 (ji24 - (Int.tmod x18_4 ji24))))))) + (wrap64 ((wrap64 ((rd x16_3 (ji53)) * (wrap64 (ji24 - (Int.tmod x19_5 ji24))))) * (Int.tmod x18_4 ji24))))) + (wrap64 ((wrap64 ((rd x16_3 (ji56)) * (Int.tmod x19_5 ji24))) * (Int.tmod x18_4 ji24))))) (wrap64 (ji24 * ji24))))))) x12_2 ji24 (wrap64 ((wrap64 (Int.tdiv a1 (ji24))) + 2)) x16_3 x18_4 (wrap64 (x19_5 + 1)) x277000_3)) else (none)) else (none)) = some (r1, r2, r3, r4) := by first | (rw [hji59] at H; exact H) | (simp only [hji59] at H ⊢; exact H)
                               have hji59w : (IntKind.i64.wrap ((wrap64 (x18_4 * (wrap64 (a1 + 1)))) + x19_5)) = ji59 := (i64_w _).trans hji59
                               by_cases c60 : 0 ≤ (ji59)
                               ·rw [if_pos c60] at H
                                have c60b0 : decide (0 ≤ (ji59)) = true := decide_eq_true c60
                                clear c60
                                (try (have c60y0 := c60b0; simp only [hl16_3] at c60y0))
                                (try (have c60y1 := c60b1; simp only [hl16_3] at c60y1))
                                (try (have c60y2 := c60b2; simp only [hl16_3] at c60y2))
                                by_cases c61 : (ji59) < (x11_5.length : Int)
                                ·rw [if_pos c61] at H
                                 have c61b0 : decide ((ji59) < (x11_5.length : Int)) = true := decide_eq_true c61
                                 clear c61
                                 (try (have c61y0 := c61b0; simp only [hl16_3] at c61y0))
                                 (try (have c61y1 := c61b1; simp only [hl16_3] at c61y1))
                                 (try (have c61y2 := c61b2; simp only [hl16_3] at c61y2))
                                 by_cases c62 : (wrap64 (ji24 * ji24)) = 0
                                 ·rw [if_pos c62] at H
                                  exact absurd H (by simp)
                                 ·rw [if_neg c62] at H
                                  have c62b0 : ((wrap64 (ji24 * ji24)) == 0) = false := beq_eq_false_iff_ne.mpr c62
                                  have c62b1 : ((wrap64 (ji24 * ji24)) != 0) = true := bne_iff_ne.mpr c62
                                  (try (have c62y0 := c62b0; simp only [hl16_3] at c62y0))
                                  (try (have c62y1 := c62b1; simp only [hl16_3] at c62y1))
                                  (try (have c62y2 := c62b2; simp only [hl16_3] at c62y2))
                                  obtain ⟨y291, hy291⟩ : ∃ y_ : List Int, y_ = (x11_5.set ((ji59) : Int).toNat (wrap64 ((rd x11_5 (ji59)) + (wrap64 (Int.tdiv (wrap64 ((wrap64 ((wrap64 ((wrap64 ((wrap64 ((rd x16_3 (ji47)) * (wrap64 (ji24 - (Int.tmod x19_5 ji24))))) * (wrap64 (ji24 - (Int.tmod x18_4 ji24))))) + (wrap64 ((wrap64 ((rd x16_3 (ji50)) * (Int.tmod x19_5 ji24))) * (wrap64 (ji24 - (Int.tmod x18_4 ji24))))))) + (wrap64 ((wrap64 ((rd x16_3 (ji53)) * (wrap64 (ji24 - (Int.tmod x19_5 ji24))))) * (Int.tmod x18_4 ji24))))) + (wrap64 ((wrap64 ((rd x16_3 (ji56)) * (Int.tmod x19_5 ji24))) * (Int.tmod x18_4 ji24))))) (wrap64 (ji24 * ji24))))))) := ⟨_, rfl⟩
                                  replace H : (land_Grow.l3 k5 a1 a2 a3 y291 x12_2 ji24 (wrap64 ((wrap64 (Int.tdiv a1 (ji24))) + 2)) x16_3 x18_4 (wrap64 (x19_5 + 1)) x277000_3) = some (r1, r2, r3, r4) := by first | (rw [hy291]; with_reducible exact H) | (have H2_ := (Option.bind_some _ _).symm.trans H; rw [hy291]; with_reducible exact H2_) | (have H2_ := (Option.bind_some _ _).symm.trans H; with_reducible exact H2_) | with_reducible exact H | (rw [hy291]; exact H) | exact H
                                  have Ny291 := Aside0.mk hy291
                                  clear hy291
                                  have H' := Aside0.mk H
                                  clear H
                                  try go_wp2
                                  replace HO_11 := Aside0.mk (Kd.R_drew HO_11.out)
                                  replace HO_16 := Aside0.mk (Kd.R_drew HO_16.out)
                                  replace BK273 := Aside0.mk (blk_drew BK273.out)
                                  replace BK276 := Aside0.mk (blk_drew BK276.out)
                                  replace HB := Aside0.mk (below_drew1 HB.out)
                                  refine start_ (n := 18) (S := fun w' => True) (ds := []) #[false, false, false, false, false, false, false, false, false, false, false, false, false, false, false, false, false, false] (by kernel_rfl) rfl rfl trivial (fun hHeld => ?_); refine with_tabW land_Grow.tab22 land_Grow.bits22 (fun HT_ HW_ => ?_)
                                  generalize wr.drew = w64 at HO_11 HO_16 BK273 BK276 HB hHeld ⊢
                                  refine pure_ (i := 0) (N := some 92) (v := ?_) (a' := ?_) (bA 1 18) rfl rfl (any_of HT_.out (by kernel_rfl)) (fun _ _ _ h => h) (Or.inl ⟨by rfl, ?_⟩) ?_ ?_; rotate_left; (intro w'; go_simp; with_reducible rfl); rotate_left; (simp only [Act.put, sI_, s0_, sS_, i64_w, i32_w]; rfl)
                                  refine pure_ (i := 1) (N := some 93) (v := ?_) (a' := ?_) (bA 2 18) rfl rfl (any_of HT_.out (by kernel_rfl)) (fun _ _ _ h => h) (Or.inl ⟨by rfl, ?_⟩) ?_ ?_; rotate_left; (intro w'; go_simp; with_reducible rfl); rotate_left; (simp only [Act.put, sI_, s0_, sS_, i64_w, i32_w]; rfl)
                                  refine pure_ (i := 2) (N := some 94) (v := ?_) (a' := ?_) (bA 3 18) rfl rfl (any_of HT_.out (by kernel_rfl)) (fun _ _ _ h => h) (Or.inl ⟨by rfl, ?_⟩) ?_ ?_; rotate_left; (intro w'; go_simp; with_reducible rfl); rotate_left; (simp only [Act.put, sI_, s0_, sS_, i64_w, i32_w]; rfl)
                                  refine pure_ (i := 3) (N := some 95) (v := ?_) (a' := ?_) (bA 4 18) rfl rfl (any_of HT_.out (by kernel_rfl)) (fun _ _ _ h => h) (Or.inl ⟨by rfl, ?_⟩) ?_ ?_; rotate_left; (intro w'; go_simp; with_reducible rfl); rotate_left; (simp only [Act.put, sI_, s0_, sS_, i64_w, i32_w]; rfl)
                                  refine pure_ (i := 4) (N := some 96) (v := ?_) (a' := ?_) (bA 5 18) rfl rfl (any_of HT_.out (by kernel_rfl)) (fun _ _ _ h => h) (Or.inl ⟨by rfl, ?_⟩) ?_ ?_; rotate_left; (intro w'; go_simp; with_reducible rfl); rotate_left; (simp only [Act.put, sI_, s0_, sS_, i64_w, i32_w]; rfl)
                                  refine pure_ (i := 5) (N := some 97) (v := ?_) (a' := ?_) (bA 6 18) rfl rfl (any_of HT_.out (by kernel_rfl)) (fun _ _ _ h => h) (Or.inl ⟨by rfl, ?_⟩) ?_ ?_; rotate_left; (intro w'; go_simp; with_reducible rfl); rotate_left; (simp only [Act.put, sI_, s0_, sS_, i64_w, i32_w]; rfl)
                                  refine pure_ (i := 6) (N := some 98) (v := ?_) (a' := ?_) (bA 7 18) rfl rfl (any_of HT_.out (by kernel_rfl)) (fun _ _ _ h => h) (Or.inl ⟨by rfl, ?_⟩) ?_ ?_; rotate_left; (intro w'; go_simp; with_reducible rfl); rotate_left; (simp only [Act.put, sI_, s0_, sS_, i64_w, i32_w]; rfl)
                                  refine pure_ (i := 7) (N := some 99) (v := ?_) (a' := ?_) (bA 8 18) rfl rfl (any_of HT_.out (by kernel_rfl)) (fun _ _ _ h => h) (Or.inl ⟨by rfl, ?_⟩) ?_ ?_; rotate_left; (intro w'; go_simp; with_reducible rfl); rotate_left; (simp only [Act.put, sI_, s0_, sS_, i64_w, i32_w]; rfl)
                                  refine pure_ (i := 8) (N := some 100) (v := ?_) (a' := ?_) (bA 9 18) rfl rfl (any_of HT_.out (by kernel_rfl)) (fun _ _ _ h => h) (Or.inl ⟨by rfl, ?_⟩) ?_ ?_; rotate_left; (intro w'; go_simp; with_reducible rfl); rotate_left; (simp only [Act.put, sI_, s0_, sS_, i64_w, i32_w]; rfl)
                                  refine pure_ (i := 9) (N := some 101) (v := ?_) (a' := ?_) (bA 10 18) rfl rfl (any_of HT_.out (by kernel_rfl)) (fun _ _ _ h => h) (Or.inl ⟨by rfl, ?_⟩) ?_ ?_; rotate_left; (intro w'; go_simp; with_reducible rfl); rotate_left; (simp only [Act.put, sI_, s0_, sS_, i64_w, i32_w]; rfl)
                                  refine pure_ (i := 10) (N := some 102) (v := ?_) (a' := ?_) (bA 11 18) rfl rfl (any_of HT_.out (by kernel_rfl)) (fun _ _ _ h => h) (Or.inl ⟨by rfl, ?_⟩) ?_ ?_; rotate_left; (intro w'; go_simp; with_reducible rfl); rotate_left; (simp only [Act.put, sI_, s0_, sS_, i64_w, i32_w]; rfl)
                                  refine pure_ (i := 11) (N := some 103) (v := ?_) (a' := ?_) (bA 12 18) rfl rfl (any_of HT_.out (by kernel_rfl)) (fun _ _ _ h => h) (Or.inl ⟨by rfl, ?_⟩) ?_ ?_; rotate_left; (intro w'; go_simp; with_reducible rfl); rotate_left; (simp only [Act.put, sI_, s0_, sS_, i64_w, i32_w]; rfl)
                                  refine pure_ (i := 12) (N := some 104) (v := ?_) (a' := ?_) (bA 13 18) rfl rfl (any_of HT_.out (by kernel_rfl)) (fun _ _ _ h => h) (Or.inl ⟨by rfl, ?_⟩) ?_ ?_; rotate_left; (intro w'; go_simp; with_reducible rfl); rotate_left; (simp only [Act.put, sI_, s0_, sS_, i64_w, i32_w]; rfl)
                                  refine pure_ (i := 13) (N := some 105) (v := ?_) (a' := ?_) (bA 14 18) rfl rfl (any_of HT_.out (by kernel_rfl)) (fun _ _ _ h => h) (Or.inl ⟨by rfl, ?_⟩) ?_ ?_; rotate_left; (intro w'; go_simp; with_reducible rfl); rotate_left; (simp only [Act.put, sI_, s0_, sS_, i64_w, i32_w]; rfl)
                                  refine pure_ (i := 14) (N := some 106) (v := ?_) (a' := ?_) (bA 15 18) rfl rfl (any_of HT_.out (by kernel_rfl)) (fun _ _ _ h => h) (Or.inl ⟨by rfl, ?_⟩) ?_ ?_; rotate_left; (intro w'; go_simp; with_reducible rfl); rotate_left; (simp only [Act.put, sI_, s0_, sS_, i64_w, i32_w]; rfl)
                                  refine pure_ (i := 15) (N := some 20) (v := ?_) (a' := ?_) (bA 16 18) rfl rfl (any_of HT_.out (by kernel_rfl)) (fun _ _ _ h => h) (Or.inl ⟨by rfl, ?_⟩) ?_ ?_; rotate_left; (intro w'; go_simp; with_reducible rfl); rotate_left; (simp only [Act.put, sI_, s0_, sS_, i64_w, i32_w]; rfl)
                                  refine pure_ (i := 16) (N := some 21) (v := ?_) (a' := ?_) (bA 17 18) rfl rfl (any_of HT_.out (by kernel_rfl)) (fun _ _ _ h => h) (Or.inl ⟨by rfl, ?_⟩) ?_ ?_; rotate_left; (intro w'; go_simp; with_reducible rfl); rotate_left; (simp only [Act.put, sI_, s0_, sS_, i64_w, i32_w]; rfl)
                                  refine pure_ (i := 17) (N := some 22) (v := ?_) (a' := ?_) (bA 18 18) rfl rfl (any_of HT_.out (by kernel_rfl)) (fun _ _ _ h => h) (Or.inl ⟨by rfl, ?_⟩) ?_ ?_; rotate_left; (intro w'; go_simp; with_reducible rfl); rotate_left; (simp only [Act.put, sI_, s0_, sS_, i64_w, i32_w]; rfl)
                                  refine done_ (done_of HT_.out (by kernel_rfl)) ?_
                                  try go_wp2
                                  replace HO_11 := Aside0.mk (Kd.R_drew HO_11.out)
                                  replace HO_16 := Aside0.mk (Kd.R_drew HO_16.out)
                                  replace BK273 := Aside0.mk (blk_drew BK273.out)
                                  replace BK276 := Aside0.mk (blk_drew BK276.out)
                                  replace HB := Aside0.mk (below_drew1 HB.out)
                                  have p286 : 0 ≤ ((ji47) : Int) := of_decide_eq_true tW_
                                  have q286 : (ji47) < (x16_3.length : Int) := of_decide_eq_true tW_
                                  obtain ⟨ad286, e286, hx286_0⟩ := Kd.at_int (Kd.R_reads' HO_16.out).2.2 (ji47) p286 q286
                                  cases e286
                                  replace p286 := eq_true p286
                                  replace q286 := eq_true q286
                                  have p287 : 0 ≤ ((ji50) : Int) := of_decide_eq_true tW_
                                  have q287 : (ji50) < (x16_3.length : Int) := of_decide_eq_true tW_
                                  obtain ⟨ad287, e287, hx287_0⟩ := Kd.at_int (Kd.R_reads' HO_16.out).2.2 (ji50) p287 q287
                                  obtain rfl : ad286 = ad287 := (by injection e287)
                                  replace p287 := eq_true p287
                                  replace q287 := eq_true q287
                                  have p288 : 0 ≤ ((ji53) : Int) := of_decide_eq_true tW_
                                  have q288 : (ji53) < (x16_3.length : Int) := of_decide_eq_true tW_
                                  obtain ⟨ad288, e288, hx288_0⟩ := Kd.at_int (Kd.R_reads' HO_16.out).2.2 (ji53) p288 q288
                                  obtain rfl : ad286 = ad288 := (by injection e288)
                                  replace p288 := eq_true p288
                                  replace q288 := eq_true q288
                                  have p289 : 0 ≤ ((ji56) : Int) := of_decide_eq_true tW_
                                  have q289 : (ji56) < (x16_3.length : Int) := of_decide_eq_true tW_
                                  obtain ⟨ad289, e289, hx289_0⟩ := Kd.at_int (Kd.R_reads' HO_16.out).2.2 (ji56) p289 q289
                                  obtain rfl : ad286 = ad289 := (by injection e289)
                                  replace p289 := eq_true p289
                                  replace q289 := eq_true q289
                                  refine start_ (n := 50) (S := fun w' => w'.cell? (ad286.add ((ji47)).toNat) = some (.int .i64 (rd x16_3 (ji47))) ∧ w'.cell? (ad286.add ((ji50)).toNat) = some (.int .i64 (rd x16_3 (ji50))) ∧ w'.cell? (ad286.add ((ji53)).toNat) = some (.int .i64 (rd x16_3 (ji53))) ∧ w'.cell? (ad286.add ((ji56)).toNat) = some (.int .i64 (rd x16_3 (ji56)))) (ds := []) #[false, false, false, false, false, false, false, false, false, false, false, false, false, false, false, false, false, false, false, false, false, false, false, false, false, false, false, false, false, false, false, false, false, false, false, false, false, false, false, false, false, false, false, false, false, false, false, false, false, false] (by kernel_rfl) rfl rfl ⟨hx286_0, hx287_0, hx288_0, hx289_0⟩ (fun hHeld => ?_); refine with_tabW land_Grow.tab23 land_Grow.bits23 (fun HT_ HW_ => ?_)
                                  generalize w64.drew = w65 at HO_11 HO_16 BK273 BK276 HB hx286_0 hx287_0 hx288_0 hx289_0 hHeld ⊢
                                  refine pure_ (i := 0) (N := some 107) (v := ?_) (a' := ?_) (bA 1 50) rfl rfl (any_of HT_.out (by kernel_rfl)) (fun _ _ _ h => h) (Or.inl ⟨by rfl, ?_⟩) ?_ ?_; rotate_left; (intro w'; go_simp; with_reducible rfl); rotate_left; (simp only [Act.put, sI_, s0_, sS_, i64_w, i32_w]; rfl)
                                  refine pure_ (i := 1) (N := some 108) (v := ?_) (a' := ?_) (bA 2 50) rfl rfl (any_of HT_.out (by kernel_rfl)) (fun _ _ _ h => h) (Or.inl ⟨by rfl, ?_⟩) ?_ ?_; rotate_left; (intro w'; go_simp; with_reducible rfl); rotate_left; (simp only [Act.put, sI_, s0_, sS_, i64_w, i32_w]; rfl)
                                  refine pure_ (i := 2) (N := some 109) (v := ?_) (a' := ?_) (bA 3 50) rfl rfl (any_of HT_.out (by kernel_rfl)) (fun _ _ _ h => h) (Or.inl ⟨by rfl, ?_⟩) ?_ ?_; rotate_left; (intro w'; go_simp; with_reducible rfl); rotate_left; (simp only [Act.put, sI_, s0_, sS_, i64_w, i32_w]; rfl)
                                  refine pure_ (i := 4) (N := some 111) (v := ?_) (a' := ?_) #[true, true, true, false, true, false, false, false, false, false, false, false, false, false, false, false, false, false, false, false, false, false, false, false, false, false, false, false, false, false, false, false, false, false, false, false, false, false, false, false, false, false, false, false, false, false, false, false, false, false] rfl rfl (any_of HT_.out (by kernel_rfl)) (fun _ _ _ h => h) (Or.inl ⟨by rfl, ?_⟩) ?_ ?_; rotate_left; (intro w'; go_simp; with_reducible rfl); rotate_left; (simp only [Act.put, sI_, s0_, sS_, i64_w, i32_w]; rfl)
                                  refine pure_ (i := 5) (N := some 112) (v := ?_) (a' := ?_) #[true, true, true, false, true, true, false, false, false, false, false, false, false, false, false, false, false, false, false, false, false, false, false, false, false, false, false, false, false, false, false, false, false, false, false, false, false, false, false, false, false, false, false, false, false, false, false, false, false, false] rfl rfl (any_of HT_.out (by kernel_rfl)) (fun _ _ _ h => h) (Or.inl ⟨by rfl, ?_⟩) ?_ ?_; rotate_left; (intro w'; go_simp; with_reducible rfl); rotate_left; (simp only [Act.put, sI_, s0_, sS_, i64_w, i32_w]; rfl)
                                  refine pure_ (i := 6) (N := some 113) (v := ?_) (a' := ?_) #[true, true, true, false, true, true, true, false, false, false, false, false, false, false, false, false, false, false, false, false, false, false, false, false, false, false, false, false, false, false, false, false, false, false, false, false, false, false, false, false, false, false, false, false, false, false, false, false, false, false] rfl rfl (any_of HT_.out (by kernel_rfl)) (fun _ _ _ h => h) (Or.inl ⟨by rfl, ?_⟩) ?_ ?_; rotate_left; (intro w'; go_simp; with_reducible rfl); rotate_left; (simp only [Act.put, sI_, s0_, sS_, i64_w, i32_w]; rfl)
                                  refine pure_ (i := 8) (N := some 115) (v := ?_) (a' := ?_) #[true, true, true, false, true, true, true, false, true, false, false, false, false, false, false, false, false, false, false, false, false, false, false, false, false, false, false, false, false, false, false, false, false, false, false, false, false, false, false, false, false, false, false, false, false, false, false, false, false, false] rfl rfl (any_of HT_.out (by kernel_rfl)) (fun _ _ _ h => h) (Or.inl ⟨by rfl, ?_⟩) ?_ ?_; rotate_left; (intro w'; go_simp; with_reducible rfl); rotate_left; (simp only [Act.put, sI_, s0_, sS_, i64_w, i32_w]; rfl)
                                  refine pure_ (i := 9) (N := some 116) (v := ?_) (a' := ?_) #[true, true, true, false, true, true, true, false, true, true, false, false, false, false, false, false, false, false, false, false, false, false, false, false, false, false, false, false, false, false, false, false, false, false, false, false, false, false, false, false, false, false, false, false, false, false, false, false, false, false] rfl rfl (any_of HT_.out (by kernel_rfl)) (fun _ _ _ h => h) (Or.inl ⟨by rfl, ?_⟩) ?_ ?_; rotate_left; (intro w'; go_simp; with_reducible rfl); rotate_left; (simp only [Act.put, sI_, s0_, sS_, i64_w, i32_w]; rfl)
                                  refine pure_ (i := 10) (N := some 117) (v := ?_) (a' := ?_) #[true, true, true, false, true, true, true, false, true, true, true, false, false, false, false, false, false, false, false, false, false, false, false, false, false, false, false, false, false, false, false, false, false, false, false, false, false, false, false, false, false, false, false, false, false, false, false, false, false, false] rfl rfl (any_of HT_.out (by kernel_rfl)) (fun _ _ _ h => h) (Or.inl ⟨by rfl, ?_⟩) ?_ ?_; rotate_left; (intro w'; go_simp; with_reducible rfl); rotate_left; (simp only [Act.put, sI_, s0_, sS_, i64_w, i32_w]; rfl)
                                  refine pure_ (i := 12) (N := some 119) (v := ?_) (a' := ?_) #[true, true, true, false, true, true, true, false, true, true, true, false, true, false, false, false, false, false, false, false, false, false, false, false, false, false, false, false, false, false, false, false, false, false, false, false, false, false, false, false, false, false, false, false, false, false, false, false, false, false] rfl rfl (any_of HT_.out (by kernel_rfl)) (fun _ _ _ h => h) (Or.inl ⟨by rfl, ?_⟩) ?_ ?_; rotate_left; (intro w'; go_simp; with_reducible rfl); rotate_left; (simp only [Act.put, sI_, s0_, sS_, i64_w, i32_w]; rfl)
                                  refine pure_ (i := 13) (N := some 120) (v := ?_) (a' := ?_) #[true, true, true, false, true, true, true, false, true, true, true, false, true, true, false, false, false, false, false, false, false, false, false, false, false, false, false, false, false, false, false, false, false, false, false, false, false, false, false, false, false, false, false, false, false, false, false, false, false, false] rfl rfl (any_of HT_.out (by kernel_rfl)) (fun _ _ _ h => h) (Or.inl ⟨by rfl, ?_⟩) ?_ ?_; rotate_left; (intro w'; go_simp; with_reducible rfl); rotate_left; (simp only [Act.put, sI_, s0_, sS_, i64_w, i32_w]; rfl)
                                  refine pure_ (i := 14) (N := some 121) (v := ?_) (a' := ?_) #[true, true, true, false, true, true, true, false, true, true, true, false, true, true, true, false, false, false, false, false, false, false, false, false, false, false, false, false, false, false, false, false, false, false, false, false, false, false, false, false, false, false, false, false, false, false, false, false, false, false] rfl rfl (any_of HT_.out (by kernel_rfl)) (fun _ _ _ h => h) (Or.inl ⟨by rfl, ?_⟩) ?_ ?_; rotate_left; (intro w'; go_simp; with_reducible rfl); rotate_left; (simp only [Act.put, sI_, s0_, sS_, i64_w, i32_w]; rfl)
                                  refine pure_ (i := 15) (N := some 122) (v := ?_) (a' := ?_) #[true, true, true, false, true, true, true, false, true, true, true, false, true, true, true, true, false, false, false, false, false, false, false, false, false, false, false, false, false, false, false, false, false, false, false, false, false, false, false, false, false, false, false, false, false, false, false, false, false, false] rfl rfl (any_of HT_.out (by kernel_rfl)) (fun _ _ _ h => h) (Or.inl ⟨by rfl, ?_⟩) ?_ ?_; rotate_left; (intro w'; go_simp; with_reducible rfl); rotate_left; (simp only [Act.put, sI_, s0_, sS_, i64_w, i32_w]; rfl)
                                  refine pure_ (i := 17) (N := some 124) (v := ?_) (a' := ?_) #[true, true, true, false, true, true, true, false, true, true, true, false, true, true, true, true, false, true, false, false, false, false, false, false, false, false, false, false, false, false, false, false, false, false, false, false, false, false, false, false, false, false, false, false, false, false, false, false, false, false] rfl rfl (any_of HT_.out (by kernel_rfl)) (fun _ _ _ h => h) (Or.inl ⟨by rfl, ?_⟩) ?_ ?_; rotate_left; (intro w'; go_simp; with_reducible rfl); rotate_left; (simp only [Act.put, sI_, s0_, sS_, i64_w, i32_w]; rfl)
                                  refine pure_ (i := 19) (N := some 126) (v := ?_) (a' := ?_) #[true, true, true, false, true, true, true, false, true, true, true, false, true, true, true, true, false, true, false, true, false, false, false, false, false, false, false, false, false, false, false, false, false, false, false, false, false, false, false, false, false, false, false, false, false, false, false, false, false, false] rfl rfl (any_of HT_.out (by kernel_rfl)) (fun _ _ _ h => h) (Or.inl ⟨by rfl, ?_⟩) ?_ ?_; rotate_left; (intro w'; go_simp; with_reducible rfl); rotate_left; (simp only [Act.put, sI_, s0_, sS_, i64_w, i32_w]; rfl)
                                  refine pure_ (i := 20) (N := some 127) (v := ?_) (a' := ?_) #[true, true, true, false, true, true, true, false, true, true, true, false, true, true, true, true, false, true, false, true, true, false, false, false, false, false, false, false, false, false, false, false, false, false, false, false, false, false, false, false, false, false, false, false, false, false, false, false, false, false] rfl rfl (any_of HT_.out (by kernel_rfl)) (fun _ _ _ h => h) (Or.inl ⟨by rfl, ?_⟩) ?_ ?_; rotate_left; (intro w'; go_simp; with_reducible rfl); rotate_left; (simp only [Act.put, sI_, s0_, sS_, i64_w, i32_w]; rfl)
                                  refine pure_ (i := 21) (N := some 128) (v := ?_) (a' := ?_) #[true, true, true, false, true, true, true, false, true, true, true, false, true, true, true, true, false, true, false, true, true, true, false, false, false, false, false, false, false, false, false, false, false, false, false, false, false, false, false, false, false, false, false, false, false, false, false, false, false, false] rfl rfl (any_of HT_.out (by kernel_rfl)) (fun _ _ _ h => h) (Or.inl ⟨by rfl, ?_⟩) ?_ ?_; rotate_left; (intro w'; go_simp; with_reducible rfl); rotate_left; (simp only [Act.put, sI_, s0_, sS_, i64_w, i32_w]; rfl)
                                  refine pure_ (i := 24) (N := some 131) (v := ?_) (a' := ?_) #[true, true, true, false, true, true, true, false, true, true, true, false, true, true, true, true, false, true, false, true, true, true, false, false, true, false, false, false, false, false, false, false, false, false, false, false, false, false, false, false, false, false, false, false, false, false, false, false, false, false] rfl rfl (any_of HT_.out (by kernel_rfl)) (fun _ _ _ h => h) (Or.inl ⟨by rfl, ?_⟩) ?_ ?_; rotate_left; (intro w'; go_simp; with_reducible rfl); rotate_left; (simp only [Act.put, sI_, s0_, sS_, i64_w, i32_w]; rfl)
                                  refine pure_ (i := 25) (N := some 132) (v := ?_) (a' := ?_) #[true, true, true, false, true, true, true, false, true, true, true, false, true, true, true, true, false, true, false, true, true, true, false, false, true, true, false, false, false, false, false, false, false, false, false, false, false, false, false, false, false, false, false, false, false, false, false, false, false, false] rfl rfl (any_of HT_.out (by kernel_rfl)) (fun _ _ _ h => h) (Or.inl ⟨by rfl, ?_⟩) ?_ ?_; rotate_left; (intro w'; go_simp; with_reducible rfl); rotate_left; (simp only [Act.put, sI_, s0_, sS_, i64_w, i32_w]; rfl)
                                  refine pure_ (i := 26) (N := some 133) (v := ?_) (a' := ?_) #[true, true, true, false, true, true, true, false, true, true, true, false, true, true, true, true, false, true, false, true, true, true, false, false, true, true, true, false, false, false, false, false, false, false, false, false, false, false, false, false, false, false, false, false, false, false, false, false, false, false] rfl rfl (any_of HT_.out (by kernel_rfl)) (fun _ _ _ h => h) (Or.inl ⟨by rfl, ?_⟩) ?_ ?_; rotate_left; (intro w'; go_simp; with_reducible rfl); rotate_left; (simp only [Act.put, sI_, s0_, sS_, i64_w, i32_w]; rfl)
                                  refine pure_ (i := 27) (N := some 134) (v := ?_) (a' := ?_) #[true, true, true, false, true, true, true, false, true, true, true, false, true, true, true, true, false, true, false, true, true, true, false, false, true, true, true, true, false, false, false, false, false, false, false, false, false, false, false, false, false, false, false, false, false, false, false, false, false, false] rfl rfl (any_of HT_.out (by kernel_rfl)) (fun _ _ _ h => h) (Or.inl ⟨by rfl, ?_⟩) ?_ ?_; rotate_left; (intro w'; go_simp; with_reducible rfl); rotate_left; (simp only [Act.put, sI_, s0_, sS_, i64_w, i32_w]; rfl)
                                  refine pure_ (i := 28) (N := some 135) (v := ?_) (a' := ?_) #[true, true, true, false, true, true, true, false, true, true, true, false, true, true, true, true, false, true, false, true, true, true, false, false, true, true, true, true, true, false, false, false, false, false, false, false, false, false, false, false, false, false, false, false, false, false, false, false, false, false] rfl rfl (any_of HT_.out (by kernel_rfl)) (fun _ _ _ h => h) (Or.inl ⟨by rfl, ?_⟩) ?_ ?_; rotate_left; (intro w'; go_simp; with_reducible rfl); rotate_left; (simp only [Act.put, sI_, s0_, sS_, i64_w, i32_w]; rfl)
                                  refine pure_ (i := 30) (N := some 137) (v := ?_) (a' := ?_) #[true, true, true, false, true, true, true, false, true, true, true, false, true, true, true, true, false, true, false, true, true, true, false, false, true, true, true, true, true, false, true, false, false, false, false, false, false, false, false, false, false, false, false, false, false, false, false, false, false, false] rfl rfl (any_of HT_.out (by kernel_rfl)) (fun _ _ _ h => h) (Or.inl ⟨by rfl, ?_⟩) ?_ ?_; rotate_left; (intro w'; go_simp; with_reducible rfl); rotate_left; (simp only [Act.put, sI_, s0_, sS_, i64_w, i32_w]; rfl)
                                  refine pure_ (i := 31) (N := some 138) (v := ?_) (a' := ?_) #[true, true, true, false, true, true, true, false, true, true, true, false, true, true, true, true, false, true, false, true, true, true, false, false, true, true, true, true, true, false, true, true, false, false, false, false, false, false, false, false, false, false, false, false, false, false, false, false, false, false] rfl rfl (any_of HT_.out (by kernel_rfl)) (fun _ _ _ h => h) (Or.inl ⟨by rfl, ?_⟩) ?_ ?_; rotate_left; (intro w'; go_simp; with_reducible rfl); rotate_left; (simp only [Act.put, sI_, s0_, sS_, i64_w, i32_w]; rfl)
                                  refine pure_ (i := 32) (N := some 139) (v := ?_) (a' := ?_) #[true, true, true, false, true, true, true, false, true, true, true, false, true, true, true, true, false, true, false, true, true, true, false, false, true, true, true, true, true, false, true, true, true, false, false, false, false, false, false, false, false, false, false, false, false, false, false, false, false, false] rfl rfl (any_of HT_.out (by kernel_rfl)) (fun _ _ _ h => h) (Or.inl ⟨by rfl, ?_⟩) ?_ ?_; rotate_left; (intro w'; go_simp; with_reducible rfl); rotate_left; (simp only [Act.put, sI_, s0_, sS_, i64_w, i32_w]; rfl)
                                  refine pure_ (i := 34) (N := some 141) (v := ?_) (a' := ?_) #[true, true, true, false, true, true, true, false, true, true, true, false, true, true, true, true, false, true, false, true, true, true, false, false, true, true, true, true, true, false, true, true, true, false, true, false, false, false, false, false, false, false, false, false, false, false, false, false, false, false] rfl rfl (any_of HT_.out (by kernel_rfl)) (fun _ _ _ h => h) (Or.inl ⟨by rfl, ?_⟩) ?_ ?_; rotate_left; (intro w'; go_simp; with_reducible rfl); rotate_left; (simp only [Act.put, sI_, s0_, sS_, i64_w, i32_w]; rfl)
                                  refine pure_ (i := 37) (N := some 144) (v := ?_) (a' := ?_) #[true, true, true, false, true, true, true, false, true, true, true, false, true, true, true, true, false, true, false, true, true, true, false, false, true, true, true, true, true, false, true, true, true, false, true, false, false, true, false, false, false, false, false, false, false, false, false, false, false, false] rfl rfl (any_of HT_.out (by kernel_rfl)) (fun _ _ _ h => h) (Or.inl ⟨by rfl, ?_⟩) ?_ ?_; rotate_left; (intro w'; go_simp; with_reducible rfl); rotate_left; (simp only [Act.put, sI_, s0_, sS_, i64_w, i32_w]; rfl)
                                  refine pure_ (i := 38) (N := some 145) (v := ?_) (a' := ?_) #[true, true, true, false, true, true, true, false, true, true, true, false, true, true, true, true, false, true, false, true, true, true, false, false, true, true, true, true, true, false, true, true, true, false, true, false, false, true, true, false, false, false, false, false, false, false, false, false, false, false] rfl rfl (any_of HT_.out (by kernel_rfl)) (fun _ _ _ h => h) (Or.inl ⟨by rfl, ?_⟩) ?_ ?_; rotate_left; (intro w'; go_simp; with_reducible rfl); rotate_left; (simp only [Act.put, sI_, s0_, sS_, i64_w, i32_w]; rfl)
                                  refine pure_ (i := 39) (N := some 146) (v := ?_) (a' := ?_) #[true, true, true, false, true, true, true, false, true, true, true, false, true, true, true, true, false, true, false, true, true, true, false, false, true, true, true, true, true, false, true, true, true, false, true, false, false, true, true, true, false, false, false, false, false, false, false, false, false, false] rfl rfl (any_of HT_.out (by kernel_rfl)) (fun _ _ _ h => h) (Or.inl ⟨by rfl, ?_⟩) ?_ ?_; rotate_left; (intro w'; go_simp; with_reducible rfl); rotate_left; (simp only [Act.put, sI_, s0_, sS_, i64_w, i32_w]; rfl)
                                  refine pure_ (i := 40) (N := some 147) (v := ?_) (a' := ?_) #[true, true, true, false, true, true, true, false, true, true, true, false, true, true, true, true, false, true, false, true, true, true, false, false, true, true, true, true, true, false, true, true, true, false, true, false, false, true, true, true, true, false, false, false, false, false, false, false, false, false] rfl rfl (any_of HT_.out (by kernel_rfl)) (fun _ _ _ h => h) (Or.inl ⟨by rfl, ?_⟩) ?_ ?_; rotate_left; (intro w'; go_simp; with_reducible rfl); rotate_left; (simp only [Act.put, sI_, s0_, sS_, i64_w, i32_w]; rfl)
                                  refine pure_ (i := 41) (N := some 148) (v := ?_) (a' := ?_) #[true, true, true, false, true, true, true, false, true, true, true, false, true, true, true, true, false, true, false, true, true, true, false, false, true, true, true, true, true, false, true, true, true, false, true, false, false, true, true, true, true, true, false, false, false, false, false, false, false, false] rfl rfl (any_of HT_.out (by kernel_rfl)) (fun _ _ _ h => h) (Or.inl ⟨by rfl, ?_⟩) ?_ ?_; rotate_left; (intro w'; go_simp; with_reducible rfl); rotate_left; (simp only [Act.put, sI_, s0_, sS_, i64_w, i32_w]; rfl)
                                  refine pure_ (i := 42) (N := some 149) (v := ?_) (a' := ?_) #[true, true, true, false, true, true, true, false, true, true, true, false, true, true, true, true, false, true, false, true, true, true, false, false, true, true, true, true, true, false, true, true, true, false, true, false, false, true, true, true, true, true, true, false, false, false, false, false, false, false] rfl rfl (any_of HT_.out (by kernel_rfl)) (fun _ _ _ h => h) (Or.inl ⟨by rfl, ?_⟩) ?_ ?_; rotate_left; (intro w'; go_simp; with_reducible rfl); rotate_left; (simp only [Act.put, sI_, s0_, sS_, i64_w, i32_w]; rfl)
                                  refine pure_ (i := 44) (N := some 151) (v := ?_) (a' := ?_) #[true, true, true, false, true, true, true, false, true, true, true, false, true, true, true, true, false, true, false, true, true, true, false, false, true, true, true, true, true, false, true, true, true, false, true, false, false, true, true, true, true, true, true, false, true, false, false, false, false, false] rfl rfl (any_of HT_.out (by kernel_rfl)) (fun _ _ _ h => h) (Or.inl ⟨by rfl, ?_⟩) ?_ ?_; rotate_left; (intro w'; go_simp; with_reducible rfl); rotate_left; (simp only [Act.put, sI_, s0_, sS_, i64_w, i32_w]; rfl)
                                  refine pure_ (i := 46) (N := some 153) (v := ?_) (a' := ?_) #[true, true, true, false, true, true, true, false, true, true, true, false, true, true, true, true, false, true, false, true, true, true, false, false, true, true, true, true, true, false, true, true, true, false, true, false, false, true, true, true, true, true, true, false, true, false, true, false, false, false] rfl rfl (any_of HT_.out (by kernel_rfl)) (fun _ _ _ h => h) (Or.inl ⟨by rfl, ?_⟩) ?_ ?_; rotate_left; (intro w'; go_simp; with_reducible rfl); rotate_left; (simp only [Act.put, sI_, s0_, sS_, i64_w, i32_w]; rfl)
                                  refine take_ (i := 3) (N := some 110) (v := ?_) (a' := ?_) #[true, true, true, true, true, true, true, false, true, true, true, false, true, true, true, true, false, true, false, true, true, true, false, false, true, true, true, true, true, false, true, true, true, false, true, false, false, true, true, true, true, true, true, false, true, false, true, false, false, false] rfl rfl (take_ofW HT_.out HW_.out (by kernel_rfl)) (fun _ _ _ h => h) (Or.inl ⟨by rfl, ?_⟩) hHeld ?_ ?_; rotate_left; (rintro w' ⟨s0, s1, s2, s3⟩; go_simp; with_reducible rfl); rotate_left; (simp only [Act.put, sI_, s0_, sS_, i64_w, i32_w]; rfl)
                                  refine pure_ (i := 7) (N := some 114) (v := ?_) (a' := ?_) #[true, true, true, true, true, true, true, true, true, true, true, false, true, true, true, true, false, true, false, true, true, true, false, false, true, true, true, true, true, false, true, true, true, false, true, false, false, true, true, true, true, true, true, false, true, false, true, false, false, false] rfl rfl (any_of HT_.out (by kernel_rfl)) (fun _ _ _ h => h) (Or.inl ⟨by rfl, ?_⟩) ?_ ?_; rotate_left; (intro w'; go_simp; with_reducible rfl); rotate_left; (simp only [Act.put, sI_, s0_, sS_, i64_w, i32_w]; rfl)
                                  refine pure_ (i := 11) (N := some 118) (v := ?_) (a' := ?_) #[true, true, true, true, true, true, true, true, true, true, true, true, true, true, true, true, false, true, false, true, true, true, false, false, true, true, true, true, true, false, true, true, true, false, true, false, false, true, true, true, true, true, true, false, true, false, true, false, false, false] rfl rfl (any_of HT_.out (by kernel_rfl)) (fun _ _ _ h => h) (Or.inl ⟨by rfl, ?_⟩) ?_ ?_; rotate_left; (intro w'; go_simp; with_reducible rfl); rotate_left; (simp only [Act.put, sI_, s0_, sS_, i64_w, i32_w]; rfl)
                                  refine take_ (i := 16) (N := some 123) (v := ?_) (a' := ?_) #[true, true, true, true, true, true, true, true, true, true, true, true, true, true, true, true, true, true, false, true, true, true, false, false, true, true, true, true, true, false, true, true, true, false, true, false, false, true, true, true, true, true, true, false, true, false, true, false, false, false] rfl rfl (take_ofW HT_.out HW_.out (by kernel_rfl)) (fun _ _ _ h => h) (Or.inl ⟨by rfl, ?_⟩) hHeld ?_ ?_; rotate_left; (rintro w' ⟨s0, s1, s2, s3⟩; go_simp; with_reducible rfl); rotate_left; (simp only [Act.put, sI_, s0_, sS_, i64_w, i32_w]; rfl)
                                  refine pure_ (i := 18) (N := some 125) (v := ?_) (a' := ?_) #[true, true, true, true, true, true, true, true, true, true, true, true, true, true, true, true, true, true, true, true, true, true, false, false, true, true, true, true, true, false, true, true, true, false, true, false, false, true, true, true, true, true, true, false, true, false, true, false, false, false] rfl rfl (any_of HT_.out (by kernel_rfl)) (fun _ _ _ h => h) (Or.inl ⟨by rfl, ?_⟩) ?_ ?_; rotate_left; (intro w'; go_simp; with_reducible rfl); rotate_left; (simp only [Act.put, sI_, s0_, sS_, i64_w, i32_w]; rfl)
                                  refine pure_ (i := 22) (N := some 129) (v := ?_) (a' := ?_) #[true, true, true, true, true, true, true, true, true, true, true, true, true, true, true, true, true, true, true, true, true, true, true, false, true, true, true, true, true, false, true, true, true, false, true, false, false, true, true, true, true, true, true, false, true, false, true, false, false, false] rfl rfl (any_of HT_.out (by kernel_rfl)) (fun _ _ _ h => h) (Or.inl ⟨by rfl, ?_⟩) ?_ ?_; rotate_left; (intro w'; go_simp; with_reducible rfl); rotate_left; (simp only [Act.put, sI_, s0_, sS_, i64_w, i32_w]; rfl)
                                  refine pure_ (i := 23) (N := some 130) (v := ?_) (a' := ?_) #[true, true, true, true, true, true, true, true, true, true, true, true, true, true, true, true, true, true, true, true, true, true, true, true, true, true, true, true, true, false, true, true, true, false, true, false, false, true, true, true, true, true, true, false, true, false, true, false, false, false] rfl rfl (any_of HT_.out (by kernel_rfl)) (fun _ _ _ h => h) (Or.inl ⟨by rfl, ?_⟩) ?_ ?_; rotate_left; (intro w'; go_simp; with_reducible rfl); rotate_left; (simp only [Act.put, sI_, s0_, sS_, i64_w, i32_w]; rfl)
                                  refine take_ (i := 29) (N := some 136) (v := ?_) (a' := ?_) #[true, true, true, true, true, true, true, true, true, true, true, true, true, true, true, true, true, true, true, true, true, true, true, true, true, true, true, true, true, true, true, true, true, false, true, false, false, true, true, true, true, true, true, false, true, false, true, false, false, false] rfl rfl (take_ofW HT_.out HW_.out (by kernel_rfl)) (fun _ _ _ h => h) (Or.inl ⟨by rfl, ?_⟩) hHeld ?_ ?_; rotate_left; (rintro w' ⟨s0, s1, s2, s3⟩; go_simp; with_reducible rfl); rotate_left; (simp only [Act.put, sI_, s0_, sS_, i64_w, i32_w]; rfl)
                                  refine pure_ (i := 33) (N := some 140) (v := ?_) (a' := ?_) #[true, true, true, true, true, true, true, true, true, true, true, true, true, true, true, true, true, true, true, true, true, true, true, true, true, true, true, true, true, true, true, true, true, true, true, false, false, true, true, true, true, true, true, false, true, false, true, false, false, false] rfl rfl (any_of HT_.out (by kernel_rfl)) (fun _ _ _ h => h) (Or.inl ⟨by rfl, ?_⟩) ?_ ?_; rotate_left; (intro w'; go_simp; with_reducible rfl); rotate_left; (simp only [Act.put, sI_, s0_, sS_, i64_w, i32_w]; rfl)
                                  refine pure_ (i := 35) (N := some 142) (v := ?_) (a' := ?_) #[true, true, true, true, true, true, true, true, true, true, true, true, true, true, true, true, true, true, true, true, true, true, true, true, true, true, true, true, true, true, true, true, true, true, true, true, false, true, true, true, true, true, true, false, true, false, true, false, false, false] rfl rfl (any_of HT_.out (by kernel_rfl)) (fun _ _ _ h => h) (Or.inl ⟨by rfl, ?_⟩) ?_ ?_; rotate_left; (intro w'; go_simp; with_reducible rfl); rotate_left; (simp only [Act.put, sI_, s0_, sS_, i64_w, i32_w]; rfl)
                                  refine pure_ (i := 36) (N := some 143) (v := ?_) (a' := ?_) #[true, true, true, true, true, true, true, true, true, true, true, true, true, true, true, true, true, true, true, true, true, true, true, true, true, true, true, true, true, true, true, true, true, true, true, true, true, true, true, true, true, true, true, false, true, false, true, false, false, false] rfl rfl (any_of HT_.out (by kernel_rfl)) (fun _ _ _ h => h) (Or.inl ⟨by rfl, ?_⟩) ?_ ?_; rotate_left; (intro w'; go_simp; with_reducible rfl); rotate_left; (simp only [Act.put, sI_, s0_, sS_, i64_w, i32_w]; rfl)
                                  refine take_ (i := 43) (N := some 150) (v := ?_) (a' := ?_) #[true, true, true, true, true, true, true, true, true, true, true, true, true, true, true, true, true, true, true, true, true, true, true, true, true, true, true, true, true, true, true, true, true, true, true, true, true, true, true, true, true, true, true, true, true, false, true, false, false, false] rfl rfl (take_ofW HT_.out HW_.out (by kernel_rfl)) (fun _ _ _ h => h) (Or.inl ⟨by rfl, ?_⟩) hHeld ?_ ?_; rotate_left; (rintro w' ⟨s0, s1, s2, s3⟩; go_simp; with_reducible rfl); rotate_left; (simp only [Act.put, sI_, s0_, sS_, i64_w, i32_w]; rfl)
                                  refine pure_ (i := 45) (N := some 152) (v := ?_) (a' := ?_) (bA 47 50) rfl rfl (any_of HT_.out (by kernel_rfl)) (fun _ _ _ h => h) (Or.inl ⟨by rfl, ?_⟩) ?_ ?_; rotate_left; (intro w'; go_simp; with_reducible rfl); rotate_left; (simp only [Act.put, sI_, s0_, sS_, i64_w, i32_w]; rfl)
                                  refine pure_ (i := 47) (N := some 154) (v := ?_) (a' := ?_) (bA 48 50) rfl rfl (any_of HT_.out (by kernel_rfl)) (fun _ _ _ h => h) (Or.inl ⟨by rfl, ?_⟩) ?_ ?_; rotate_left; (intro w'; go_simp; with_reducible rfl); rotate_left; (simp only [Act.put, sI_, s0_, sS_, i64_w, i32_w]; rfl)
                                  refine pure_ (i := 48) (N := some 155) (v := ?_) (a' := ?_) (bA 49 50) rfl rfl (any_of HT_.out (by kernel_rfl)) (fun _ _ _ h => h) (Or.inl ⟨by rfl, ?_⟩) ?_ ?_; rotate_left; (intro w'; go_simp; with_reducible rfl); rotate_left; (simp only [Act.put, sI_, s0_, sS_, i64_w, i32_w]; rfl)
                                  refine pure_ (i := 49) (N := some 23) (v := ?_) (a' := ?_) (bA 50 50) rfl rfl (any_of HT_.out (by kernel_rfl)) (fun _ _ _ h => h) (Or.inl ⟨by rfl, ?_⟩) ?_ ?_; rotate_left; (intro w'; go_simp; with_reducible rfl); rotate_left; (simp only [Act.put, sI_, s0_, sS_, i64_w, i32_w]; rfl)
                                  refine done_ (done_of HT_.out (by kernel_rfl)) ?_
                                  try go_wp2
                                  replace HO_11 := Aside0.mk (Kd.R_drew HO_11.out)
                                  replace HO_16 := Aside0.mk (Kd.R_drew HO_16.out)
                                  replace BK273 := Aside0.mk (blk_drew BK273.out)
                                  replace BK276 := Aside0.mk (blk_drew BK276.out)
                                  replace HB := Aside0.mk (below_drew1 HB.out)
                                  obtain ⟨Ao67, co67, eo67⟩ := Kd.R_slice HO_11.out
                                  (first | subst eo67 | (injection eo67 with f1_ f2_ f3_; have f4_ := f1_.symm; have f5_ := f3_.symm; clear f1_ f2_ f3_; subst f4_; subst f5_))
                                  have p290 : 0 ≤ ((ji59) : Int) := of_decide_eq_true tW_
                                  have q290 : (ji59) < (x11_5.length : Int) := of_decide_eq_true tW_
                                  obtain ⟨ad290, e290, hx290_0⟩ := Kd.at_int (Kd.R_reads' HO_11.out).2.2 (ji59) p290 q290
                                  cases e290
                                  replace p290 := eq_true p290
                                  replace q290 := eq_true q290
                                  have p63 : 0 ≤ ((ji59) : Int) := of_decide_eq_true tW_
                                  have q63 : ((ji59) : Int) < ((x11_5.length : Int) : Int) := of_decide_eq_true tW_
                                  obtain ⟨go63, co63, eo63, gb63, gl63, cl63, HG63⟩ := Kd.R_form HO_11.out (by omega)
                                  (first | cases eo63 | (injection eo63 with ea_ en_ ec_; (first | subst ea_ | (injection ea_ with ea_; subst ea_)); subst ec_; clear en_))
                                  have GB63 := Aside0.mk gb63
                                  have GG63 := Aside0.mk HG63
                                  clear gb63 gl63 HG63
                                  (first | simp only [add_plain] at hx290_0 | skip)
                                  obtain ⟨hx63_0, hf63_0⟩ := Kd.R_celln 0 HO_11.out ((ji59) : Int) p63 q63
                                  replace p63 := eq_true p63
                                  replace q63 := eq_true q63
                                  have HP68 := Kd.R_putn HO_11.out ((ji59) : Int) (wrap64 ((rd x11_5 (ji59)) + (wrap64 (Int.tdiv (wrap64 ((wrap64 ((wrap64 ((wrap64 ((wrap64 ((rd x16_3 (ji47)) * (wrap64 (ji24 - (Int.tmod x19_5 ji24))))) * (wrap64 (ji24 - (Int.tmod x18_4 ji24))))) + (wrap64 ((wrap64 ((rd x16_3 (ji50)) * (Int.tmod x19_5 ji24))) * (wrap64 (ji24 - (Int.tmod x18_4 ji24))))))) + (wrap64 ((wrap64 ((rd x16_3 (ji53)) * (wrap64 (ji24 - (Int.tmod x19_5 ji24))))) * (Int.tmod x18_4 ji24))))) + (wrap64 ((wrap64 ((rd x16_3 (ji56)) * (Int.tmod x19_5 ji24))) * (Int.tmod x18_4 ji24))))) (wrap64 (ji24 * ji24))))))
                                  rw [← Ny291.out] at HP68
                                  have HQ68 := Aside0.mk HP68
                                  clear HP68
                                  refine start_ (n := 17) (S := fun w' => w'.cell? ⟨go63, ((ji59)).toNat, none⟩ = some (.int .i64 (rd x11_5 (ji59)))) (ds := [16]) #[false, false, false, false, false, false, false, false, false, false, false, false, false, false, false, false, false] (by kernel_rfl) rfl rfl (hx290_0) (fun hHeld => ?_); refine with_tabW land_Grow.tab24 land_Grow.bits24 (fun HT_ HW_ => ?_)
                                  generalize w65.drew = w66 at HO_11 HO_16 BK273 BK276 HB GG63 HQ68 hf63_0 hx290_0 hx63_0 hHeld ⊢
                                  refine pure_ (i := 0) (N := some 156) (v := ?_) (a' := ?_) (bA 1 17) rfl rfl (any_of HT_.out (by kernel_rfl)) (fun _ _ _ h => h) (Or.inl ⟨by rfl, ?_⟩) ?_ ?_; rotate_left; (intro w'; go_simp; with_reducible rfl); rotate_left; (simp only [Act.put, sI_, s0_, sS_, i64_w, i32_w]; rfl)
                                  refine pure_ (i := 1) (N := some 157) (v := ?_) (a' := ?_) (bA 2 17) rfl rfl (any_of HT_.out (by kernel_rfl)) (fun _ _ _ h => h) (Or.inl ⟨by rfl, ?_⟩) ?_ ?_; rotate_left; (intro w'; go_simp; with_reducible rfl); rotate_left; (simp only [Act.put, sI_, s0_, sS_, i64_w, i32_w]; rfl)
                                  refine pure_ (i := 2) (N := some 158) (v := ?_) (a' := ?_) (bA 3 17) rfl rfl (any_of HT_.out (by kernel_rfl)) (fun _ _ _ h => h) (Or.inl ⟨by rfl, ?_⟩) ?_ ?_; rotate_left; (intro w'; go_simp; with_reducible rfl); rotate_left; (simp only [Act.put, sI_, s0_, sS_, i64_w, i32_w]; rfl)
                                  refine pure_ (i := 3) (N := some 159) (v := ?_) (a' := ?_) (bA 4 17) rfl rfl (any_of HT_.out (by kernel_rfl)) (fun _ _ _ h => h) (Or.inl ⟨by rfl, ?_⟩) ?_ ?_; rotate_left; (intro w'; go_simp; with_reducible rfl); rotate_left; (simp only [Act.put, sI_, s0_, sS_, i64_w, i32_w]; rfl)
                                  refine pure_ (i := 4) (N := some 160) (v := ?_) (a' := ?_) (bA 5 17) rfl rfl (any_of HT_.out (by kernel_rfl)) (fun _ _ _ h => h) (Or.inl ⟨by rfl, ?_⟩) ?_ ?_; rotate_left; (intro w'; go_simp; with_reducible rfl); rotate_left; (simp only [Act.put, sI_, s0_, sS_, i64_w, i32_w]; rfl)
                                  refine pure_ (i := 5) (N := some 161) (v := ?_) (a' := ?_) (bA 6 17) rfl rfl (any_of HT_.out (by kernel_rfl)) (fun _ _ _ h => h) (Or.inl ⟨by rfl, ?_⟩) ?_ ?_; rotate_left; (intro w'; go_simp; with_reducible rfl); rotate_left; (simp only [Act.put, sI_, s0_, sS_, i64_w, i32_w]; rfl)
                                  refine pure_ (i := 6) (N := some 162) (v := ?_) (a' := ?_) (bA 7 17) rfl rfl (any_of HT_.out (by kernel_rfl)) (fun _ _ _ h => h) (Or.inl ⟨by rfl, ?_⟩) ?_ ?_; rotate_left; (intro w'; go_simp; with_reducible rfl); rotate_left; (simp only [Act.put, sI_, s0_, sS_, i64_w, i32_w]; rfl)
                                  refine pure_ (i := 7) (N := some 163) (v := ?_) (a' := ?_) (bA 8 17) rfl rfl (any_of HT_.out (by kernel_rfl)) (fun _ _ _ h => h) (Or.inl ⟨by rfl, ?_⟩) ?_ ?_; rotate_left; (intro w'; go_simp; with_reducible rfl); rotate_left; (simp only [Act.put, sI_, s0_, sS_, i64_w, i32_w]; rfl)
                                  refine pure_ (i := 9) (N := some 165) (v := ?_) (a' := ?_) #[true, true, true, true, true, true, true, true, false, true, false, false, false, false, false, false, false] rfl rfl (any_of HT_.out (by kernel_rfl)) (fun _ _ _ h => h) (Or.inl ⟨by rfl, ?_⟩) ?_ ?_; rotate_left; (intro w'; go_simp; with_reducible rfl); rotate_left; (simp only [Act.put, sI_, s0_, sS_, i64_w, i32_w]; rfl)
                                  refine pure_ (i := 10) (N := some 166) (v := ?_) (a' := ?_) #[true, true, true, true, true, true, true, true, false, true, true, false, false, false, false, false, false] rfl rfl (any_of HT_.out (by kernel_rfl)) (fun _ _ _ h => h) (Or.inl ⟨by rfl, ?_⟩) ?_ ?_; rotate_left; (intro w'; go_simp; with_reducible rfl); rotate_left; (simp only [Act.put, sI_, s0_, sS_, i64_w, i32_w]; rfl)
                                  refine pure_ (i := 11) (N := some 167) (v := ?_) (a' := ?_) #[true, true, true, true, true, true, true, true, false, true, true, true, false, false, false, false, false] rfl rfl (any_of HT_.out (by kernel_rfl)) (fun _ _ _ h => h) (Or.inl ⟨by rfl, ?_⟩) ?_ ?_; rotate_left; (intro w'; go_simp; with_reducible rfl); rotate_left; (simp only [Act.put, sI_, s0_, sS_, i64_w, i32_w]; rfl)
                                  refine pure_ (i := 12) (N := some 168) (v := ?_) (a' := ?_) #[true, true, true, true, true, true, true, true, false, true, true, true, true, false, false, false, false] rfl rfl (any_of HT_.out (by kernel_rfl)) (fun _ _ _ h => h) (Or.inl ⟨by rfl, ?_⟩) ?_ ?_; rotate_left; (intro w'; go_simp; with_reducible rfl); rotate_left; (simp only [Act.put, sI_, s0_, sS_, i64_w, i32_w]; rfl)
                                  refine pure_ (i := 13) (N := some 169) (v := ?_) (a' := ?_) #[true, true, true, true, true, true, true, true, false, true, true, true, true, true, false, false, false] rfl rfl (any_of HT_.out (by kernel_rfl)) (fun _ _ _ h => h) (Or.inl ⟨by rfl, ?_⟩) ?_ ?_; rotate_left; (intro w'; go_simp; with_reducible rfl); rotate_left; (simp only [Act.put, sI_, s0_, sS_, i64_w, i32_w]; rfl)
                                  refine take_ (i := 8) (N := some 164) (v := ?_) (a' := ?_) (bA 14 17) rfl rfl (take_ofW HT_.out HW_.out (by kernel_rfl)) (fun _ _ _ h => h) (Or.inl ⟨by rfl, ?_⟩) hHeld ?_ ?_; rotate_left; (intro w' s0; go_simp; with_reducible rfl); rotate_left; (simp only [Act.put, sI_, s0_, sS_, i64_w, i32_w]; rfl)
                                  refine pure_ (i := 14) (N := some 170) (v := ?_) (a' := ?_) (bA 15 17) rfl rfl (any_of HT_.out (by kernel_rfl)) (fun _ _ _ h => h) (Or.inl ⟨by rfl, ?_⟩) ?_ ?_; rotate_left; (intro w'; go_simp; with_reducible rfl); rotate_left; (simp only [Act.put, sI_, s0_, sS_, i64_w, i32_w]; rfl)
                                  refine pure_ (i := 15) (N := some 171) (v := ?_) (a' := ?_) (bA 16 17) rfl rfl (any_of HT_.out (by kernel_rfl)) (fun _ _ _ h => h) (Or.inl ⟨by rfl, ?_⟩) ?_ ?_; rotate_left; (intro w'; go_simp; with_reducible rfl); rotate_left; (simp only [Act.put, sI_, s0_, sS_, i64_w, i32_w]; rfl)
                                  refine last_ (i := 16) (N := none) #[true, true, true, true, true, true, true, true, true, true, true, true, true, true, true, true, true] rfl rfl (one_of HT_.out (by kernel_rfl)) (by decide) (fun K hK => ?_)
                                  refine skip_ (w1 := ?_) (by rfl) rfl ?_ ?_
                                  rotate_left
                                  ·go_simp
                                   rfl
                                  refine hK.out _ _ ?_
                                  clear hK K
                                  refine done_ (done_of HT_.out (by kernel_rfl)) ?_
                                  try go_wp2
                                  go_roundg k5
                                  case measure => have := HJ4.out; have := HK2.out; have := HK3.out; have := HK4.out; have := HK5.out; omega
                                  case rel => exact ⟨(y291), (wrap64 (x19_5 + 1)), tS_, H', ⟨by have := HJ4.out; have := HK2.out; have := HK3.out; have := HK4.out; have := HK5.out; omega⟩, ⟨by (try simp only [hl16_3]); (with_reducible repeat (first | apply Kd.R_alloc | apply Kd.R_drewN | apply Kd.R_drew)); exact HQ68.out⟩, ⟨by (try simp only [hl16_3]); (with_reducible repeat (first | apply Kd.R_alloc | apply Kd.R_drewN | apply Kd.R_drew)); exact Kd.R_mono (Kd.R_far (p := ⟨go63, ((ji59) : Int).toNat, none⟩) (Kd.R_mono HO_16.out (fun k_ hk => (⟨hk, fun e_ => hk (by rw [e_]; rfl)⟩ : _ ∧ k_ ≠ go63))) (fun _ hk => hk.2) (.int .i64 (wrap64 ((rd x11_5 (ji59)) + (wrap64 (Int.tdiv (wrap64 ((wrap64 ((wrap64 ((wrap64 ((wrap64 ((rd x16_3 (ji47)) * (wrap64 (ji24 - (Int.tmod x19_5 ji24))))) * (wrap64 (ji24 - (Int.tmod x18_4 ji24))))) + (wrap64 ((wrap64 ((rd x16_3 (ji50)) * (Int.tmod x19_5 ji24))) * (wrap64 (ji24 - (Int.tmod x18_4 ji24))))))) + (wrap64 ((wrap64 ((rd x16_3 (ji53)) * (wrap64 (ji24 - (Int.tmod x19_5 ji24))))) * (Int.tmod x18_4 ji24))))) + (wrap64 ((wrap64 ((rd x16_3 (ji56)) * (Int.tmod x19_5 ji24))) * (Int.tmod x18_4 ji24))))) (wrap64 (ji24 * ji24)))))))) (fun _ hk => hk.1)⟩, ⟨by (try simp only [hl16_3]); (with_reducible repeat (first | refine blk_drewN ?_ _ | refine blk_drew ?_ | refine blk_alloc ?_ _)); refine blk_far ?_ (by have h_ := Kd.R_ne HO_11.out BK273.out (by decide); intro e_; exact h_ (by rw [e_]; rfl)) _; (with_reducible repeat (first | refine blk_drewN ?_ _ | refine blk_drew ?_ | refine blk_alloc ?_ _)); exact BK273.out⟩, ⟨by (try simp only [hl16_3]); (with_reducible repeat (first | refine blk_drewN ?_ _ | refine blk_drew ?_ | refine blk_alloc ?_ _)); refine blk_far ?_ (by have h_ := Kd.R_ne HO_11.out BK276.out (by decide); intro e_; exact h_ (by rw [e_]; rfl)) _; (with_reducible repeat (first | refine blk_drewN ?_ _ | refine blk_drew ?_ | refine blk_alloc ?_ _)); exact BK276.out⟩, ⟨dL3_ HB GB63 GE273 GE276⟩⟩
                                ·rw [if_neg c61] at H
                                 exact absurd H (by simp)
                               ·rw [if_neg c60] at H
                                exact absurd H (by simp)
                              ·rw [if_neg c58] at H
                               exact absurd H (by simp)
                             ·rw [if_neg c57] at H
                              exact absurd H (by simp)
                            ·rw [if_neg c55] at H
                             exact absurd H (by simp)
                           ·rw [if_neg c54] at H
                            exact absurd H (by simp)
                          ·rw [if_neg c52] at H
                           exact absurd H (by simp)
                         ·rw [if_neg c51] at H
                          exact absurd H (by simp)
                        ·rw [if_neg c49] at H
                         exact absurd H (by simp)
                       ·rw [if_neg c48] at H
                        exact absurd H (by simp)
                     ·rw [if_neg c45] at H
                      have c45b0 : decide (x19_5 ≤ a1) = false := decide_eq_false c45
                      clear c45
                      (try (have c45y0 := c45b0; simp only [hl16_3] at c45y0))
                      (try (have c45y1 := c45b1; simp only [hl16_3] at c45y1))
                      (try (have c45y2 := c45b2; simp only [hl16_3] at c45y2))
                      have H' := Aside0.mk H
                      clear H
                      go_wp2
                      go_roundg k5
                      case measure => have := HJ4.out; have := HK2.out; have := HK3.out; have := HK4.out; have := HK5.out; omega
                      case rel => exact ⟨(x11_5), (wrap64 (x18_4 + 1)), tS_, H', ⟨by have := HJ4.out; have := HK2.out; have := HK3.out; have := HK4.out; have := HK5.out; omega⟩, ⟨by (try simp only [hl16_3]); (with_reducible repeat (first | apply Kd.R_alloc | apply Kd.R_drewN | apply Kd.R_drew)); exact HO_11.out⟩, ⟨by (try simp only [hl16_3]); (with_reducible repeat (first | apply Kd.R_alloc | apply Kd.R_drewN | apply Kd.R_drew)); exact HO_16.out⟩, ⟨by (try simp only [hl16_3]); (with_reducible repeat (first | refine blk_drewN ?_ _ | refine blk_drew ?_ | refine blk_alloc ?_ _)); exact BK273.out⟩, ⟨by (try simp only [hl16_3]); (with_reducible repeat (first | refine blk_drewN ?_ _ | refine blk_drew ?_ | refine blk_alloc ?_ _)); exact BK276.out⟩, ⟨dL2_ HB GE273 GE276⟩⟩
                  ·rw [if_neg c44] at H
                   have c44b0 : decide (x18_4 ≤ a2) = false := decide_eq_false c44
                   clear c44
                   (try (have c44y0 := c44b0; simp only [hl16_3] at c44y0))
                   (try (have c44y1 := c44b1; simp only [hl16_3] at c44y1))
                   (try (have c44y2 := c44b2; simp only [hl16_3] at c44y2))
                   have H' := Aside0.mk H
                   clear H
                   go_wp2
                   (try simp only [← hl16_3])
                   go_roundg k4
                   case measure => have := HJ4.out; have := HK2.out; have := HK3.out; have := HK4.out; omega
                   case rel => exact ⟨(x11_4), (wrap64 (x12_2 - 1)), (x277000_3), tS_, H', ⟨by have := HJ4.out; have := HK2.out; have := HK3.out; have := HK4.out; omega⟩, ⟨by (try simp only [hl16_3]); (with_reducible repeat (first | apply Kd.R_alloc | apply Kd.R_drewN | apply Kd.R_drew)); exact Kd.R_mono HO_11.out (fun _ hk => trivial)⟩, ⟨by (try simp only [hl16_3]); (with_reducible repeat (first | refine blk_drewN ?_ _ | refine blk_drew ?_ | refine blk_alloc ?_ _)); exact BK273.out⟩, ⟨by (try simp only [hl16_3]); (with_reducible repeat (first | refine blk_drewN ?_ _ | refine blk_drew ?_ | refine blk_alloc ?_ _)); exact BK276.out⟩, ⟨dL2_ HB GE273 GE276⟩⟩
            ·rw [if_neg c28] at H
             exact absurd H (by simp)
           ·rw [if_neg c27] at H
            exact absurd H (by simp)
         ·rw [if_neg c23] at H
          exact absurd H (by simp)
        ·rw [if_neg c22] at H
         have c22b0 : decide (0 ≤ x12_2) = false := decide_eq_false c22
         clear c22
         have H' := Aside0.mk H
         clear H
         obtain ⟨Ao69, co69, eo69⟩ := Kd.R_slice HO_11.out
         subst eo69
         go_wp2
         go_loopg [174] k2 (fun kq v174 w' => ∃ (x11_3 : List Int) (x174_3 : Int), v174 = .int .i64 x174_3 ∧ Aside0 (land_Grow.l4 kq a1 a2 x11_3 (x11_2.length : Int) x174_3 = some (r1, r2, r3, r4)) ∧ Aside0 (kq ≤ k2) ∧ Aside0 (Kd.R (Kd.int .i64) 3 w' w.heap.size (fun _ => True) (.slice Ao69 x11_2.length co69) x11_3) ∧ Aside0 (w'.heap[gb273]? = some (.cells #[.int .i64 0, .int .i64 0, (.slice none 0 0)] 24 (0, 0))) ∧ Aside0 (w'.heap[gb276]? = some (.cells #[.int .u64 x277000_2] 52 (0, 0))) ∧ Aside0 (Below w.heap.size w w'))
         case atStart => exact ⟨(x11_2), (0), tS_, H', ⟨Nat.le_refl _⟩, ⟨dR_ HO_11⟩, ⟨dB_ BK273⟩, ⟨dB_ BK276⟩, ⟨dL2_ HB GE273 GE276⟩⟩
         case round =>
          clear H'
          try clear c22
          try clear c22b0
          try clear c23
          try clear c27
          try clear c28
          try clear c44
          try clear c44b1
          try clear c44b2
          try clear c45
          try clear c45b1
          try clear c45b2
          try clear c48
          try clear c49
          try clear c51
          try clear c52
          try clear c54
          try clear c55
          try clear c57
          try clear c58
          try clear c60
          try clear c61
          obtain ⟨x11_3, x174_3, rfl, HA, HK3, HO_11, BK273, BK276, HB⟩ := hrel
          have hl11_3 := (Kd.R_reads' HO_11.out).1
          rw [hl11_3] at HO_11
          (try simp only [hl11_3])
          (try simp only [hl11_3] at BK273)
          (try simp only [hl11_3] at BK276)
          cases gk with
          | zero => exact absurd HA.out (by simp [land_Grow.l4])
          | succ k3 =>
           have H := HA.out
           clear HA
           simp only [land_Grow.l4] at H
           by_cases c70 : x174_3 < (x11_2.length : Int)
           ·rw [if_pos c70] at H
            have c70b0 : decide (x174_3 < (x11_2.length : Int)) = true := decide_eq_true c70
            clear c70
            (try (have c70y0 := c70b0; simp only [hl11_3] at c70y0))
            (try (have c70y1 := c70b1; simp only [hl11_3] at c70y1))
            (try (have c70y2 := c70b2; simp only [hl11_3] at c70y2))
            by_cases c71 : 0 ≤ x174_3
            ·rw [if_pos c71] at H
             have c71b0 : decide (0 ≤ x174_3) = true := decide_eq_true c71
             clear c71
             (try (have c71y0 := c71b0; simp only [hl11_3] at c71y0))
             (try (have c71y1 := c71b1; simp only [hl11_3] at c71y1))
             (try (have c71y2 := c71b2; simp only [hl11_3] at c71y2))
             by_cases c72 : x174_3 < (x11_3.length : Int)
             ·rw [if_pos c72] at H
              have c72b0 : decide (x174_3 < (x11_3.length : Int)) = true := decide_eq_true c72
              clear c72
              (try (have c72y0 := c72b0; simp only [hl11_3] at c72y0))
              (try (have c72y1 := c72b1; simp only [hl11_3] at c72y1))
              (try (have c72y2 := c72b2; simp only [hl11_3] at c72y2))
              obtain ⟨y293, hy293⟩ : ∃ y_ : List Int, y_ = (x11_3.set (x174_3 : Int).toNat (wrap64 (Int.tdiv (rd x11_3 x174_3) 2))) := ⟨_, rfl⟩
              replace H : (land_Grow.l4 k3 a1 a2 y293 (x11_2.length : Int) (wrap64 (x174_3 + 1))) = some (r1, r2, r3, r4) := by first | (rw [hy293]; with_reducible exact H) | (have H2_ := (Option.bind_some _ _).symm.trans H; rw [hy293]; with_reducible exact H2_) | (have H2_ := (Option.bind_some _ _).symm.trans H; with_reducible exact H2_) | with_reducible exact H | (rw [hy293]; exact H) | exact H
              have Ny293 := Aside0.mk hy293
              clear hy293
              have H' := Aside0.mk H
              clear H
              have p292 : 0 ≤ (x174_3 : Int) := of_decide_eq_true tW_
              have q292 : x174_3 < (x11_3.length : Int) := of_decide_eq_true tW_
              obtain ⟨ad292, e292, hx292_0⟩ := Kd.at_int (Kd.R_reads' HO_11.out).2.2 x174_3 p292 q292
              cases e292
              replace p292 := eq_true p292
              replace q292 := eq_true q292
              have p73 : 0 ≤ (x174_3 : Int) := of_decide_eq_true tW_
              have q73 : (x174_3 : Int) < ((x11_3.length : Int) : Int) := of_decide_eq_true tW_
              obtain ⟨go73, co73, eo73, gb73, gl73, cl73, HG73⟩ := Kd.R_form HO_11.out (by omega)
              (first | cases eo73 | (injection eo73 with ea_ en_ ec_; (first | subst ea_ | (injection ea_ with ea_; subst ea_)); subst ec_; clear en_))
              have GB73 := Aside0.mk gb73
              have GG73 := Aside0.mk HG73
              clear gb73 gl73 HG73
              (first | simp only [add_plain] at hx292_0 | skip)
              obtain ⟨hx73_0, hf73_0⟩ := Kd.R_celln 0 HO_11.out (x174_3 : Int) p73 q73
              replace p73 := eq_true p73
              replace q73 := eq_true q73
              have HP74 := Kd.R_putg HO_11.out (x174_3 : Int) (wrap64 (Int.tdiv (rd x11_3 x174_3) 2))
              go_wp2_with (first | ((with_reducible refine gate_store (t := 3) (p := 182) rfl ?_); refine store_event (t := 3) (p := 182) (v := ?vo_w75) (w1 := (wr.setCell ⟨go73, (x174_3 : Int).toNat, none⟩ (.int .i64 (wrap64 (Int.tdiv (rd x11_3 x174_3) 2))))) ?hg ?ho ?hn ?hr ?_; (case ho => rfl); (case hg => rfl); (case hn => rfl); (case hr => first | (go_simp; done) | (go_simp; rfl)); intro w75 hw; have hg : wr.grownBy w75 (some go73) := (by rw [hw]; exact HP74.2); have hp_ : Kd.R (Kd.int .i64) 3 w75 w.heap.size (fun _ => True) (.slice (some ⟨go73, 0, none⟩) x11_3.length co69) y293 := (by rw [hw, Ny293.out]; exact HP74.1); clear HP74; replace BK273 := Aside0.mk (blk_grown (g := gb273) (o := .cells #[.int .i64 0, .int .i64 0, .slice none 0 0] 24 (0, 0)) (dB_ BK273) hg (Kd.R_ne HO_11.out BK273.out (by decide))); replace BK276 := Aside0.mk (blk_grown (g := gb276) (o := .cells #[.int .u64 x277000_2] 52 (0, 0)) (dB_ BK276) hg (Kd.R_ne HO_11.out BK276.out (by decide))); replace HO_11 := Aside0.mk (hp_); replace HB := Aside0.mk ((by rw [hw]; exact below_set (HB.out) GB73.out : Below w.heap.size w w75)); clear hg hw hp_))
              (try simp only [← hl11_3])
              go_roundg k3
              case measure => have := HJ4.out; have := HK2.out; have := HK3.out; omega
              case rel => exact ⟨(y293), (wrap64 (x174_3 + 1)), tS_, H', ⟨by have := HJ4.out; have := HK2.out; have := HK3.out; omega⟩, ⟨by (try simp only [hl11_3]); (with_reducible repeat (first | apply Kd.R_alloc | apply Kd.R_drewN | apply Kd.R_drew)); exact HO_11.out⟩, ⟨by (try simp only [hl11_3]); (with_reducible repeat (first | refine blk_drewN ?_ _ | refine blk_drew ?_ | refine blk_alloc ?_ _)); exact BK273.out⟩, ⟨by (try simp only [hl11_3]); (with_reducible repeat (first | refine blk_drewN ?_ _ | refine blk_drew ?_ | refine blk_alloc ?_ _)); exact BK276.out⟩, ⟨dL2_ HB GE273 GE276⟩⟩
             ·rw [if_neg c72] at H
              exact absurd H (by simp)
            ·rw [if_neg c71] at H
             exact absurd H (by simp)
           ·rw [if_neg c70] at H
            have c70b0 : decide (x174_3 < (x11_2.length : Int)) = false := decide_eq_false c70
            clear c70
            (try (have c70y0 := c70b0; simp only [hl11_3] at c70y0))
            (try (have c70y1 := c70b1; simp only [hl11_3] at c70y1))
            (try (have c70y2 := c70b2; simp only [hl11_3] at c70y2))
            replace H := Option.bind_eq_some_iff.mp H
            obtain ⟨⟨t294, t295, t296, t299⟩, A760, H⟩ := H
            replace H : (some (t294, t295, t296, t299)) = some (r1, r2, r3, r4) := H
            have A76 := Aside0.mk A760
            clear A760
            simp only [Option.some.injEq, Prod.mk.injEq] at H
            obtain ⟨rfl, rfl, rfl, rfl⟩ := H
            go_wp2_with (first | ((with_reducible refine gate_callee (f := 26) rfl ?_); refine goesL_ (some 187) rfl rfl Try.func26 (by kernel_rfl) rfl #[.int .i64 a1, .int .i64 a2, .slice Ao69 x11_3.length co69] rfl tA_ ?_; (with_reducible refine (land_Settle.calls k3 a1 a2 _ _ x11_3 t294 t295 t296 t299 _ ?side1 ?side2 A76.out).mono ?_); (case side1 => repeat (first | exact (Kd.R_reads' HO_11.out).2.2 | (with_reducible refine Kd.C_alloc ?_ _) | (with_reducible refine Kd.C_drewN ?_ _) | (with_reducible refine Kd.C_drew ?_))); (case side2 => exact (Kd.R_reads' HO_11.out).2.1); rintro e w77 ⟨v297, rfl, ho0, hb⟩; refine ⟨_, rfl, ?_⟩; have HO298 := Aside0.mk (Kd.R_lower (Kd.R_new' ho0 (Kd.R_lt (dR_ HO_11))) (below_size (dL2_ HB GE273 GE276))); replace HO_11 := Aside0.mk (Kd.R_elder' (dR_ HO_11) (Kd.R_base ho0) hb); replace BK273 := Aside0.mk (blk_below (g := gb273) (o := .cells #[.int .i64 0, .int .i64 0, .slice none 0 0] 24 (0, 0)) (dB_ BK273) hb); replace BK276 := Aside0.mk (blk_below (g := gb276) (o := .cells #[.int .u64 x277000_2] 52 (0, 0)) (dB_ BK276) hb); replace HB := Aside0.mk (below_step (dL2_ HB GE273 GE276) hb); have hnb78 := NB273_276.out; have hnc78 := NB276_273.out; obtain ⟨hcz79_0, hcz79_1, hcz79_2, hfz79_0, hfz79_1, hfz79_2⟩ := cs3_ BK273.out; obtain ⟨Ao80, co80, eo80⟩ := Kd.R_slice HO298.out; subst eo80))
            refine bodyPost_ret (results_ct rfl _ _ gb273 24 #[.int .i64 t294, .int .i64 t295, .slice Ao80 t296.length co80] (0, 0) _ rfl (by (with_reducible repeat (first | refine blk_drewN ?_ _ | refine blk_drew ?_ | refine blk_alloc ?_ _)); refine blk_put (cs := #[.int .i64 t294, .int .i64 t295, .slice none 0 0]) ?_ 2 _ rfl; (with_reducible repeat (first | refine blk_drewN ?_ _ | refine blk_drew ?_ | refine blk_alloc ?_ _)); refine blk_put (cs := #[.int .i64 t294, .int .i64 0, .slice none 0 0]) ?_ 1 _ rfl; (with_reducible repeat (first | refine blk_drewN ?_ _ | refine blk_drew ?_ | refine blk_alloc ?_ _)); refine blk_put (cs := #[.int .i64 0, .int .i64 0, .slice none 0 0]) ?_ 0 _ rfl; (with_reducible repeat (first | refine blk_drewN ?_ _ | refine blk_drew ?_ | refine blk_alloc ?_ _)); exact BK273.out) Try.underlying24 rfl (by kernel_rfl)) rfl ?_
            exact ⟨_, by first | rfl | (simp [errW_none, errW_some] <;> rfl) | (simp only [← hji13]; first | rfl | (simp [errW_none, errW_some] <;> rfl)) | (simp [*, errW_none, errW_some] <;> rfl), by (with_reducible repeat (first | apply Kd.R_alloc | apply Kd.R_drewN | apply Kd.R_drew)); exact Kd.R_mono (Kd.R_far (p := ⟨gb273, 2, none⟩) (Kd.R_far (p := ⟨gb273, 1, none⟩) (Kd.R_far (p := ⟨gb273, 0, none⟩) (Kd.R_types HO298.out BK273.out (by decide)) (fun _ hk => hk.2) (.int .i64 t294)) (fun _ hk => hk.2) (.int .i64 t295)) (fun _ hk => hk.2) (.slice Ao80 t296.length co80)) (fun _ hk => trivial), dL2_ HB GE273 GE276⟩
     ·rw [if_neg c15] at H
      exact absurd H (by simp)
    ·rw [if_neg c14] at H
     exact absurd H (by simp)

end Go.Proofs.Ytchflcnegpnkkab.Q
