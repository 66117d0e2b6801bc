-- PRINTED by print.py (a twelfth state) out of the translation. Not trusted: Lean checks it.
import Derived.Test.YtchflcnegpnkkabPrs
import Derived.Test.YtchflcnegpnkkabQ0
import Derived.Test.YtchflcnegpnkkabQ29
import Derived.Test.YtchflcnegpnkkabQ30
import Derived.Test.YtchflcnegpnkkabQ32
import Derived.Test.YtchflcnegpnkkabQ33
namespace Go.Proofs.Ytchflcnegpnkkab.Q
open Go.RowKit Go.Proofs.YtchflcnegpnkkabPrs Go.Proofs.YtchflcnegpnkkabOwn Go.Proofs.YtchflcnegpnkkabW.PrintWords Go.Proofs.YtchflcnegpnkkabW.PrintLast Go.Proofs.YtchflcnegpnkkabW.PrintMore
open List renaming setIfInBounds_toArray → sI_, set_cons_zero → s0_, set_cons_succ → sS_
attribute [local go_sem] max2_int min2_int max_two min_two max_three min_three max_four min_four   -- for this text's walks alone
set_option linter.unusedVariables false
set_option linter.unusedSimpArgs false

/-! ### hinterlandref02_Grow: function 13 -/
mutual
def hinterlandref02_Grow.j0 : Nat → Int → Int → Int → Int → Bool → Option (Int × Int × List Int × Int)
  | 0, _, _, _, _, _ => none
  | k + 1, x0, x1, x2, x3, x42 => if x42 = true then (some (0, 0, ([] : List Int), 1)) else ((hinterlandref01_New.f k x0 (⟨#[108, 97, 110, 100]⟩ : ByteArray)).bind fun t328 => (if 0 ≤ (wrap64 ((wrap64 (x1 + 1)) * (wrap64 (x2 + 1)))) then (if (wrap64 ((wrap64 (x1 + 1)) * (wrap64 (x2 + 1))) : Int).toNat ≤ 35184372088832 then ((some (([8, 4, 2, 1] : List Int) : List Int)).bind fun y333 => (hinterlandref02_Grow.l0 k x1 x2 x3 (List.replicate (wrap64 ((wrap64 (x1 + 1)) * (wrap64 (x2 + 1))) : Int).toNat 0) y333 (y333.length : Int) 0 t328)) else (none)) else (none)))
def hinterlandref02_Grow.l0 : Nat → Int → Int → Int → List Int → List Int → Int → Int → Int → Option (Int × Int × List Int × Int)
  | 0, _, _, _, _, _, _, _, _ => none
  | k + 1, x1, x2, x3, x11, x52, x53, x54, x330000 => if x54 < x53 then (if 0 ≤ x54 then (if x54 < (x52.length : Int) then (if (rd x52 x54) = 0 then (none) else (if 0 ≤ (wrap64 ((wrap64 ((wrap64 (Int.tdiv x1 (rd x52 x54))) + 2)) * (wrap64 ((wrap64 (Int.tdiv x2 (rd x52 x54))) + 2)))) then (if (wrap64 ((wrap64 ((wrap64 (Int.tdiv x1 (rd x52 x54))) + 2)) * (wrap64 ((wrap64 (Int.tdiv x2 (rd x52 x54))) + 2))) : Int).toNat ≤ 35184372088832 then ((some (List.replicate (wrap64 ((wrap64 ((wrap64 (Int.tdiv x1 (rd x52 x54))) + 2)) * (wrap64 ((wrap64 (Int.tdiv x2 (rd x52 x54))) + 2))) : Int).toNat 0 : List Int)).bind fun y337 => (hinterlandref02_Grow.l1 k x1 x2 x3 x11 (rd x52 x54) (wrap64 ((wrap64 (Int.tdiv x1 (rd x52 x54))) + 2)) y337 x52 x53 x54 (y337.length : Int) 0 x330000)) else (none)) else (none))) else (none)) else (none)) else (hinterlandref02_Grow.l4 k x1 x2 x11 (x11.length : Int) 0)
def hinterlandref02_Grow.l1 : Nat → Int → Int → Int → List Int → Int → Int → List Int → List Int → Int → Int → Int → Int → Int → Option (Int × Int × List Int × Int)
  | 0, _, _, _, _, _, _, _, _, _, _, _, _, _ => none
  | k + 1, x1, x2, x3, x11, x13, x14, x15, x52, x53, x54, x70, x71, x330000 => if x71 < x70 then ((hinterlandref01_Below.f k x330000 (wrap64 ((wrap64 (x3 * x13)) + 1))).bind fun bt340 => (if 0 ≤ x71 then (if x71 < (x15.length : Int) then (hinterlandref02_Grow.l1 k x1 x2 x3 x11 x13 x14 (x15.set (x71 : Int).toNat bt340.1) x52 x53 x54 x70 (wrap64 (x71 + 1)) bt340.2) else (none)) else (none))) else (hinterlandref02_Grow.l2 k x1 x2 x3 x11 x13 x14 x15 0 x52 x53 x54 x330000)
def hinterlandref02_Grow.l2 : Nat → Int → Int → Int → List Int → Int → Int → List Int → Int → List Int → Int → Int → Int → Option (Int × Int × List Int × Int)
  | 0, _, _, _, _, _, _, _, _, _, _, _, _ => none
  | k + 1, x1, x2, x3, x11, x13, x14, x15, x19, x52, x53, x54, x330000 => if x19 ≤ x2 then (hinterlandref02_Grow.l3 k x1 x2 x3 x11 x13 x14 x15 x19 0 x52 x53 x54 x330000) else (hinterlandref02_Grow.l0 k x1 x2 x3 x11 x52 x53 (wrap64 (x54 + 1)) x330000)
def hinterlandref02_Grow.l3 : Nat → Int → Int → Int → List Int → Int → Int → List Int → Int → Int → List Int → Int → Int → Int → Option (Int × Int × List Int × Int)
  | 0, _, _, _, _, _, _, _, _, _, _, _, _, _ => none
  | k + 1, x1, x2, x3, x11, x13, x14, x15, x19, x20, x52, x53, x54, x330000 => if x20 ≤ x1 then (if x13 = 0 then (none) else (if 0 ≤ (wrap64 ((wrap64 ((wrap64 (Int.tdiv x19 x13)) * x14)) + (wrap64 (Int.tdiv x20 x13)))) then (if (wrap64 ((wrap64 ((wrap64 (Int.tdiv x19 x13)) * x14)) + (wrap64 (Int.tdiv x20 x13)))) < (x15.length : Int) then (if 0 ≤ (wrap64 ((wrap64 ((wrap64 ((wrap64 (Int.tdiv x19 x13)) * x14)) + (wrap64 (Int.tdiv x20 x13)))) + 1)) then (if (wrap64 ((wrap64 ((wrap64 ((wrap64 (Int.tdiv x19 x13)) * x14)) + (wrap64 (Int.tdiv x20 x13)))) + 1)) < (x15.length : Int) then (if 0 ≤ (wrap64 ((wrap64 ((wrap64 ((wrap64 (Int.tdiv x19 x13)) * x14)) + (wrap64 (Int.tdiv x20 x13)))) + x14)) then (if (wrap64 ((wrap64 ((wrap64 ((wrap64 (Int.tdiv x19 x13)) * x14)) + (wrap64 (Int.tdiv x20 x13)))) + x14)) < (x15.length : Int) then (if 0 ≤ (wrap64 ((wrap64 ((wrap64 ((wrap64 ((wrap64 (Int.tdiv x19 x13)) * x14)) + (wrap64 (Int.tdiv x20 x13)))) + x14)) + 1)) then (if (wrap64 ((wrap64 ((wrap64 ((wrap64 ((wrap64 (Int.tdiv x19 x13)) * x14)) + (wrap64 (Int.tdiv x20 x13)))) + x14)) + 1)) < (x15.length : Int) then (if 0 ≤ (wrap64 ((wrap64 (x19 * (wrap64 (x1 + 1)))) + x20)) then (if (wrap64 ((wrap64 (x19 * (wrap64 (x1 + 1)))) + x20)) < (x11.length : Int) then (if (wrap64 (x13 * x13)) = 0 then (none) else (hinterlandref02_Grow.l3 k x1 x2 x3 (x11.set ((wrap64 ((wrap64 (x19 * (wrap64 (x1 + 1)))) + x20)) : Int).toNat (wrap64 ((rd x11 (wrap64 ((wrap64 (x19 * (wrap64 (x1 + 1)))) + x20))) + (wrap64 (Int.tdiv (wrap64 ((wrap64 ((wrap64 ((wrap64 ((rd x15 (wrap64 ((wrap64 ((wrap64 (Int.tdiv x19 x13)) * x14)) + (wrap64 (Int.tdiv x20 x13))))) * (wrap64 (x13 - (Int.tmod x20 x13))))) + (wrap64 ((rd x15 (wrap64 ((wrap64 ((wrap64 ((wrap64 (Int.tdiv x19 x13)) * x14)) + (wrap64 (Int.tdiv x20 x13)))) + 1))) * (Int.tmod x20 x13))))) * (wrap64 (x13 - (Int.tmod x19 x13))))) + (wrap64 ((wrap64 ((wrap64 ((rd x15 (wrap64 ((wrap64 ((wrap64 ((wrap64 (Int.tdiv x19 x13)) * x14)) + (wrap64 (Int.tdiv x20 x13)))) + x14))) * (wrap64 (x13 - (Int.tmod x20 x13))))) + (wrap64 ((rd x15 (wrap64 ((wrap64 ((wrap64 ((wrap64 ((wrap64 (Int.tdiv x19 x13)) * x14)) + (wrap64 (Int.tdiv x20 x13)))) + x14)) + 1))) * (Int.tmod x20 x13))))) * (Int.tmod x19 x13))))) (wrap64 (x13 * x13))))))) x13 x14 x15 x19 (wrap64 (x20 + 1)) x52 x53 x54 x330000)) else (none)) else (none)) else (none)) else (none)) else (none)) else (none)) else (none)) else (none)) else (none)) else (none))) else (hinterlandref02_Grow.l2 k x1 x2 x3 x11 x13 x14 x15 (wrap64 (x19 + 1)) x52 x53 x54 x330000)
def hinterlandref02_Grow.l4 : Nat → Int → Int → List Int → Int → Int → Option (Int × Int × List Int × Int)
  | 0, _, _, _, _, _ => none
  | k + 1, x1, x2, x11, x176, x177 => if x177 < x176 then (if 0 ≤ x177 then (if x177 < (x11.length : Int) then (hinterlandref02_Grow.l4 k x1 x2 (x11.set (x177 : Int).toNat (wrap64 (Int.tdiv (rd x11 x177) 2))) x176 (wrap64 (x177 + 1))) else (none)) else (none)) else ((hinterlandref02_Settle.f k x1 x2 x11).bind fun bt352 => (some (bt352.1, bt352.2.1, bt352.2.2.1, bt352.2.2.2)))
end
def hinterlandref02_Grow.f (k : Nat) (a0 : Int) (a1 : Int) (a2 : Int) (a3 : Int) : Option (Int × Int × List Int × Int) := (hinterlandref02_side.f a1).bind fun t326 => (if t326 = true then ((hinterlandref02_side.f a2).bind fun t327 => (if t327 = true then (if a3 < 0 then (hinterlandref02_Grow.j0 k a0 a1 a2 a3 true) else (hinterlandref02_Grow.j0 k a0 a1 a2 a3 (decide (a3 > 4)))) else (hinterlandref02_Grow.j0 k a0 a1 a2 a3 true))) else (hinterlandref02_Grow.j0 k a0 a1 a2 a3 true))
theorem hinterlandref02_Grow.mono_l : ∀ k, (∀ y0 y1 y2 y3 y4, LeO (hinterlandref02_Grow.j0 k y0 y1 y2 y3 y4) (hinterlandref02_Grow.j0 (k + 1) y0 y1 y2 y3 y4)) ∧ (∀ y0 y1 y2 y3 y4 y5 y6 y7, LeO (hinterlandref02_Grow.l0 k y0 y1 y2 y3 y4 y5 y6 y7) (hinterlandref02_Grow.l0 (k + 1) y0 y1 y2 y3 y4 y5 y6 y7)) ∧ (∀ y0 y1 y2 y3 y4 y5 y6 y7 y8 y9 y10 y11 y12, LeO (hinterlandref02_Grow.l1 k y0 y1 y2 y3 y4 y5 y6 y7 y8 y9 y10 y11 y12) (hinterlandref02_Grow.l1 (k + 1) y0 y1 y2 y3 y4 y5 y6 y7 y8 y9 y10 y11 y12)) ∧ (∀ y0 y1 y2 y3 y4 y5 y6 y7 y8 y9 y10 y11, LeO (hinterlandref02_Grow.l2 k y0 y1 y2 y3 y4 y5 y6 y7 y8 y9 y10 y11) (hinterlandref02_Grow.l2 (k + 1) y0 y1 y2 y3 y4 y5 y6 y7 y8 y9 y10 y11)) ∧ (∀ y0 y1 y2 y3 y4 y5 y6 y7 y8 y9 y10 y11 y12, LeO (hinterlandref02_Grow.l3 k y0 y1 y2 y3 y4 y5 y6 y7 y8 y9 y10 y11 y12) (hinterlandref02_Grow.l3 (k + 1) y0 y1 y2 y3 y4 y5 y6 y7 y8 y9 y10 y11 y12)) ∧ (∀ y0 y1 y2 y3 y4, LeO (hinterlandref02_Grow.l4 k y0 y1 y2 y3 y4) (hinterlandref02_Grow.l4 (k + 1) y0 y1 y2 y3 y4))
  | 0 => ⟨fun _ _ _ _ _ r h => by simp [hinterlandref02_Grow.j0] at h, fun _ _ _ _ _ _ _ _ r h => by simp [hinterlandref02_Grow.l0] at h, fun _ _ _ _ _ _ _ _ _ _ _ _ _ r h => by simp [hinterlandref02_Grow.l1] at h, fun _ _ _ _ _ _ _ _ _ _ _ _ r h => by simp [hinterlandref02_Grow.l2] at h, fun _ _ _ _ _ _ _ _ _ _ _ _ _ r h => by simp [hinterlandref02_Grow.l3] at h, fun _ _ _ _ _ r h => by simp [hinterlandref02_Grow.l4] at h⟩
  | k + 1 => by
    obtain ⟨ih0, ih1, ih2, ih3, ih4, ih5⟩ := hinterlandref02_Grow.mono_l k
    refine ⟨?_, ?_, ?_, ?_, ?_, ?_⟩
    · intro y0 y1 y2 y3 y4
      unfold hinterlandref02_Grow.j0
      repeat' first
      | (with_reducible first | exact ih0 _ _ _ _ _ | exact ih1 _ _ _ _ _ _ _ _ | exact ih2 _ _ _ _ _ _ _ _ _ _ _ _ _ | exact ih3 _ _ _ _ _ _ _ _ _ _ _ _ | exact ih4 _ _ _ _ _ _ _ _ _ _ _ _ _ | exact ih5 _ _ _ _ _ | exact hinterlandref01_Below.mono _ _ _ | exact hinterlandref01_New.mono _ _ _ | exact hinterlandref02_Settle.mono _ _ _ _ | exact LeO.refl _ | exact LeO.none _ | refine LeO.ite ?_ ?_ | refine LeO.bind ?_ (fun _ => ?_))
      | exact ih0 _ _ _ _ _
      | exact ih1 _ _ _ _ _ _ _ _
      | exact ih2 _ _ _ _ _ _ _ _ _ _ _ _ _
      | exact ih3 _ _ _ _ _ _ _ _ _ _ _ _
      | exact ih4 _ _ _ _ _ _ _ _ _ _ _ _ _
      | exact ih5 _ _ _ _ _
      | exact hinterlandref01_Below.mono _ _ _
      | exact hinterlandref01_New.mono _ _ _
      | exact hinterlandref02_Settle.mono _ _ _ _
      | exact LeO.none _
      | refine LeO.ite ?_ ?_
      | refine LeO.bind ?_ (fun _ => ?_)
    · intro y0 y1 y2 y3 y4 y5 y6 y7
      unfold hinterlandref02_Grow.l0
      repeat' first
      | (with_reducible first | exact ih0 _ _ _ _ _ | exact ih1 _ _ _ _ _ _ _ _ | exact ih2 _ _ _ _ _ _ _ _ _ _ _ _ _ | exact ih3 _ _ _ _ _ _ _ _ _ _ _ _ | exact ih4 _ _ _ _ _ _ _ _ _ _ _ _ _ | exact ih5 _ _ _ _ _ | exact hinterlandref01_Below.mono _ _ _ | exact hinterlandref01_New.mono _ _ _ | exact hinterlandref02_Settle.mono _ _ _ _ | exact LeO.refl _ | exact LeO.none _ | refine LeO.ite ?_ ?_ | refine LeO.bind ?_ (fun _ => ?_))
      | exact ih0 _ _ _ _ _
      | exact ih1 _ _ _ _ _ _ _ _
      | exact ih2 _ _ _ _ _ _ _ _ _ _ _ _ _
      | exact ih3 _ _ _ _ _ _ _ _ _ _ _ _
      | exact ih4 _ _ _ _ _ _ _ _ _ _ _ _ _
      | exact ih5 _ _ _ _ _
      | exact hinterlandref01_Below.mono _ _ _
      | exact hinterlandref01_New.mono _ _ _
      | exact hinterlandref02_Settle.mono _ _ _ _
      | exact LeO.none _
      | refine LeO.ite ?_ ?_
      | refine LeO.bind ?_ (fun _ => ?_)
    · intro y0 y1 y2 y3 y4 y5 y6 y7 y8 y9 y10 y11 y12
      unfold hinterlandref02_Grow.l1
      repeat' first
      | (with_reducible first | exact ih0 _ _ _ _ _ | exact ih1 _ _ _ _ _ _ _ _ | exact ih2 _ _ _ _ _ _ _ _ _ _ _ _ _ | exact ih3 _ _ _ _ _ _ _ _ _ _ _ _ | exact ih4 _ _ _ _ _ _ _ _ _ _ _ _ _ | exact ih5 _ _ _ _ _ | exact hinterlandref01_Below.mono _ _ _ | exact hinterlandref01_New.mono _ _ _ | exact hinterlandref02_Settle.mono _ _ _ _ | exact LeO.refl _ | exact LeO.none _ | refine LeO.ite ?_ ?_ | refine LeO.bind ?_ (fun _ => ?_))
      | exact ih0 _ _ _ _ _
      | exact ih1 _ _ _ _ _ _ _ _
      | exact ih2 _ _ _ _ _ _ _ _ _ _ _ _ _
      | exact ih3 _ _ _ _ _ _ _ _ _ _ _ _
      | exact ih4 _ _ _ _ _ _ _ _ _ _ _ _ _
      | exact ih5 _ _ _ _ _
      | exact hinterlandref01_Below.mono _ _ _
      | exact hinterlandref01_New.mono _ _ _
      | exact hinterlandref02_Settle.mono _ _ _ _
      | exact LeO.none _
      | refine LeO.ite ?_ ?_
      | refine LeO.bind ?_ (fun _ => ?_)
    · intro y0 y1 y2 y3 y4 y5 y6 y7 y8 y9 y10 y11
      unfold hinterlandref02_Grow.l2
      repeat' first
      | (with_reducible first | exact ih0 _ _ _ _ _ | exact ih1 _ _ _ _ _ _ _ _ | exact ih2 _ _ _ _ _ _ _ _ _ _ _ _ _ | exact ih3 _ _ _ _ _ _ _ _ _ _ _ _ | exact ih4 _ _ _ _ _ _ _ _ _ _ _ _ _ | exact ih5 _ _ _ _ _ | exact hinterlandref01_Below.mono _ _ _ | exact hinterlandref01_New.mono _ _ _ | exact hinterlandref02_Settle.mono _ _ _ _ | exact LeO.refl _ | exact LeO.none _ | refine LeO.ite ?_ ?_ | refine LeO.bind ?_ (fun _ => ?_))
      | exact ih0 _ _ _ _ _
      | exact ih1 _ _ _ _ _ _ _ _
      | exact ih2 _ _ _ _ _ _ _ _ _ _ _ _ _
      | exact ih3 _ _ _ _ _ _ _ _ _ _ _ _
      | exact ih4 _ _ _ _ _ _ _ _ _ _ _ _ _
      | exact ih5 _ _ _ _ _
      | exact hinterlandref01_Below.mono _ _ _
      | exact hinterlandref01_New.mono _ _ _
      | exact hinterlandref02_Settle.mono _ _ _ _
      | exact LeO.none _
      | refine LeO.ite ?_ ?_
      | refine LeO.bind ?_ (fun _ => ?_)
    · intro y0 y1 y2 y3 y4 y5 y6 y7 y8 y9 y10 y11 y12
      unfold hinterlandref02_Grow.l3
      repeat' first
      | (with_reducible first | exact ih0 _ _ _ _ _ | exact ih1 _ _ _ _ _ _ _ _ | exact ih2 _ _ _ _ _ _ _ _ _ _ _ _ _ | exact ih3 _ _ _ _ _ _ _ _ _ _ _ _ | exact ih4 _ _ _ _ _ _ _ _ _ _ _ _ _ | exact ih5 _ _ _ _ _ | exact hinterlandref01_Below.mono _ _ _ | exact hinterlandref01_New.mono _ _ _ | exact hinterlandref02_Settle.mono _ _ _ _ | exact LeO.refl _ | exact LeO.none _ | refine LeO.ite ?_ ?_ | refine LeO.bind ?_ (fun _ => ?_))
      | exact ih0 _ _ _ _ _
      | exact ih1 _ _ _ _ _ _ _ _
      | exact ih2 _ _ _ _ _ _ _ _ _ _ _ _ _
      | exact ih3 _ _ _ _ _ _ _ _ _ _ _ _
      | exact ih4 _ _ _ _ _ _ _ _ _ _ _ _ _
      | exact ih5 _ _ _ _ _
      | exact hinterlandref01_Below.mono _ _ _
      | exact hinterlandref01_New.mono _ _ _
      | exact hinterlandref02_Settle.mono _ _ _ _
      | exact LeO.none _
      | refine LeO.ite ?_ ?_
      | refine LeO.bind ?_ (fun _ => ?_)
    · intro y0 y1 y2 y3 y4
      unfold hinterlandref02_Grow.l4
      repeat' first
      | (with_reducible first | exact ih0 _ _ _ _ _ | exact ih1 _ _ _ _ _ _ _ _ | exact ih2 _ _ _ _ _ _ _ _ _ _ _ _ _ | exact ih3 _ _ _ _ _ _ _ _ _ _ _ _ | exact ih4 _ _ _ _ _ _ _ _ _ _ _ _ _ | exact ih5 _ _ _ _ _ | exact hinterlandref01_Below.mono _ _ _ | exact hinterlandref01_New.mono _ _ _ | exact hinterlandref02_Settle.mono _ _ _ _ | exact LeO.refl _ | exact LeO.none _ | refine LeO.ite ?_ ?_ | refine LeO.bind ?_ (fun _ => ?_))
      | exact ih0 _ _ _ _ _
      | exact ih1 _ _ _ _ _ _ _ _
      | exact ih2 _ _ _ _ _ _ _ _ _ _ _ _ _
      | exact ih3 _ _ _ _ _ _ _ _ _ _ _ _
      | exact ih4 _ _ _ _ _ _ _ _ _ _ _ _ _
      | exact ih5 _ _ _ _ _
      | exact hinterlandref01_Below.mono _ _ _
      | exact hinterlandref01_New.mono _ _ _
      | exact hinterlandref02_Settle.mono _ _ _ _
      | exact LeO.none _
      | refine LeO.ite ?_ ?_
      | refine LeO.bind ?_ (fun _ => ?_)
theorem hinterlandref02_Grow.mono : ∀ a0 a1 a2 a3 k, LeO (hinterlandref02_Grow.f k a0 a1 a2 a3) (hinterlandref02_Grow.f (k + 1) a0 a1 a2 a3) := by
  intro a0 a1 a2 a3 k
  obtain ⟨ih0, ih1, ih2, ih3, ih4, ih5⟩ := hinterlandref02_Grow.mono_l k
  unfold hinterlandref02_Grow.f
  repeat' first
      | (with_reducible first | exact ih0 _ _ _ _ _ | exact ih1 _ _ _ _ _ _ _ _ | exact ih2 _ _ _ _ _ _ _ _ _ _ _ _ _ | exact ih3 _ _ _ _ _ _ _ _ _ _ _ _ | exact ih4 _ _ _ _ _ _ _ _ _ _ _ _ _ | exact ih5 _ _ _ _ _ | exact hinterlandref01_Below.mono _ _ _ | exact hinterlandref01_New.mono _ _ _ | exact hinterlandref02_Settle.mono _ _ _ _ | exact LeO.refl _ | exact LeO.none _ | refine LeO.ite ?_ ?_ | refine LeO.bind ?_ (fun _ => ?_))
      | exact ih0 _ _ _ _ _
      | exact ih1 _ _ _ _ _ _ _ _
      | exact ih2 _ _ _ _ _ _ _ _ _ _ _ _ _
      | exact ih3 _ _ _ _ _ _ _ _ _ _ _ _
      | exact ih4 _ _ _ _ _ _ _ _ _ _ _ _ _
      | exact ih5 _ _ _ _ _
      | exact hinterlandref01_Below.mono _ _ _
      | exact hinterlandref01_New.mono _ _ _
      | exact hinterlandref02_Settle.mono _ _ _ _
      | exact LeO.none _
      | refine LeO.ite ?_ ?_
      | refine LeO.bind ?_ (fun _ => ?_)
def hinterlandref02_Grow.T23 : Bool × List (List Nat × List Nat) := (true, [([], []), ([], []), ([0, 1], [0, 1]), ([], []), ([2, 3], [2, 3]), ([], []), ([], []), ([5, 6], [5, 6]), ([4, 7], [4, 7]), ([8, 0, 1, 2, 3, 4, 5, 6, 7, 8], [8])])
def hinterlandref02_Grow.B23 : List Nat := [0, 0, 3, 0, 15, 0, 0, 96, 255, 511]
theorem hinterlandref02_Grow.tab23 : rtab .any (opsOf Try.f13 23) = hinterlandref02_Grow.T23 := by kernel_rfl
theorem hinterlandref02_Grow.bits23 : waitsOk hinterlandref02_Grow.T23.2 hinterlandref02_Grow.B23 = true := by kernel_rfl
def hinterlandref02_Grow.T24 : Bool × List (List Nat × List Nat) := (true, [([], []), ([], []), ([0, 1], [0, 1]), ([], []), ([], []), ([3, 4], [3, 4]), ([2, 0, 1, 2], [2]), ([5, 6, 0, 1, 2, 3, 4, 5, 6], [5])])
def hinterlandref02_Grow.B24 : List Nat := [0, 0, 3, 0, 0, 24, 7, 127]
theorem hinterlandref02_Grow.tab24 : rtab .any (opsOf Try.f13 24) = hinterlandref02_Grow.T24 := by kernel_rfl
theorem hinterlandref02_Grow.bits24 : waitsOk hinterlandref02_Grow.T24.2 hinterlandref02_Grow.B24 = true := by kernel_rfl
def hinterlandref02_Grow.T25 : Bool × List (List Nat × List Nat) := (true, [([], []), ([], []), ([0, 1], [0, 1]), ([2], [2]), ([], []), ([], []), ([4, 5], [4, 5]), ([3, 6], [3, 6]), ([], []), ([], []), ([9], [9]), ([8, 10], [8, 10]), ([11], [11]), ([], []), ([12, 13], [12, 13]), ([7, 14], [7, 14]), ([15, 0, 1, 2, 3, 4, 5, 6, 7, 8, 9, 10, 11, 12, 13, 14, 15], [15])])
def hinterlandref02_Grow.B25 : List Nat := [0, 0, 3, 7, 0, 0, 48, 127, 0, 0, 512, 1792, 3840, 0, 16128, 32767, 65535]
theorem hinterlandref02_Grow.tab25 : rtab .any (opsOf Try.f13 25) = hinterlandref02_Grow.T25 := by kernel_rfl
theorem hinterlandref02_Grow.bits25 : waitsOk hinterlandref02_Grow.T25.2 hinterlandref02_Grow.B25 = true := by kernel_rfl
def hinterlandref02_Grow.T26 : Bool × List (List Nat × List Nat) := (true, [([], []), ([], []), ([], []), ([1, 2], [1, 2]), ([0, 3], [0, 3]), ([4], [4]), ([], []), ([], []), ([6, 7], [6, 7]), ([5, 8], [5, 8]), ([], []), ([], []), ([], []), ([11, 12], [11, 12]), ([13], [13]), ([10, 14], [10, 14]), ([15], [15]), ([], []), ([16, 17], [16, 17]), ([9, 18], [9, 18]), ([19, 0, 1, 2, 3, 4, 5, 6, 7, 8, 9, 10, 11, 12, 13, 14, 15, 16, 17, 18, 19], [19])])
def hinterlandref02_Grow.B26 : List Nat := [0, 0, 0, 6, 15, 31, 0, 0, 192, 511, 0, 0, 0, 6144, 14336, 31744, 64512, 0, 261120, 524287, 1048575]
theorem hinterlandref02_Grow.tab26 : rtab .any (opsOf Try.f13 26) = hinterlandref02_Grow.T26 := by kernel_rfl
theorem hinterlandref02_Grow.bits26 : waitsOk hinterlandref02_Grow.T26.2 hinterlandref02_Grow.B26 = true := by kernel_rfl
def hinterlandref02_Grow.T27 : Bool × List (List Nat × List Nat) := (true, [([], []), ([], []), ([], []), ([2], [2]), ([1, 3], [1, 3]), ([], []), ([4, 5], [4, 5]), ([0, 6], [0, 6]), ([7], [7]), ([], []), ([], []), ([], []), ([10, 11], [10, 11]), ([9, 12], [9, 12]), ([], []), ([], []), ([14, 15], [14, 15]), ([13, 16], [13, 16]), ([], []), ([], []), ([18, 19], [18, 19]), ([17, 20], [17, 20]), ([8, 21], [8, 21]), ([0, 6, 0, 1, 2, 3, 4, 5, 6, 7, 8, 9, 10, 11, 12, 13, 14, 15, 16, 17, 18, 19, 20, 21, 22], [0, 6]), ([23, 22, 0, 1, 2, 3, 4, 5, 6, 7, 8, 9, 10, 11, 12, 13, 14, 15, 16, 17, 18, 19, 20, 21, 22], [22, 23])])
def hinterlandref02_Grow.B27 : List Nat := [0, 0, 0, 4, 14, 0, 62, 127, 255, 0, 0, 0, 3072, 7680, 0, 0, 49152, 130560, 0, 0, 786432, 2096640, 4194303, 8388607, 16777215]
theorem hinterlandref02_Grow.tab27 : rtab .any (opsOf Try.f13 27) = hinterlandref02_Grow.T27 := by kernel_rfl
theorem hinterlandref02_Grow.bits27 : waitsOk hinterlandref02_Grow.T27.2 hinterlandref02_Grow.B27 = true := by kernel_rfl
set_option maxHeartbeats 8000000 in
set_option maxRecDepth 100000 in
theorem hinterlandref02_Grow.calls (k : Nat) (a0 : Int) (a1 : Int) (a2 : Int) (a3 : Int) (r1 : Int) (r2 : Int) (r3 : List Int) (r4 : Int) (w : World) (h : hinterlandref02_Grow.f k a0 a1 a2 a3 = some (r1, r2, r3, r4)) :
    Calls Try.prog 13 #[.int .u64 a0, .int .i64 a1, .int .i64 a2, .int .i64 a3] w fun e w' => ∃ v2_ : Value, e = .returned (.tuple #[.agg #[.int .i64 r1, .int .i64 r2, v2_], .int .i64 r4]) ∧ Kd.R (Kd.int .i64) 3 w' w.heap.size (fun _ => True) v2_ r3 ∧ Below w.heap.size w w' := by
 have hu24 := Try.underlying24
 have hu52 := Try.underlying52
 have HB := Aside0.mk (Below.refl w.heap.size w)
 have H : ((hinterlandref02_side.f a1).bind fun t326 => (if t326 = true then ((hinterlandref02_side.f a2).bind fun t327 => (if t327 = true then (if a3 < 0 then (hinterlandref02_Grow.j0 k a0 a1 a2 a3 true) else (hinterlandref02_Grow.j0 k a0 a1 a2 a3 (decide (a3 > 4)))) else (hinterlandref02_Grow.j0 k a0 a1 a2 a3 true))) else (hinterlandref02_Grow.j0 k a0 a1 a2 a3 true))) = some (r1, r2, r3, r4) := h
 clear h
 have HC5 := Aside0.mk H
 clear H
 go_enter Try.func13, Try.ntmps13
 go_upto_region 1 with (first | ((with_reducible refine gate_dst (N := 8) rfl ?_); refine box_event ?hg (N := 8) ?hd (cs := #[.int .i64 0, .int .i64 0, .slice none 0 0]) (t := 24) ?hr ?_; (case hd => rfl); (case hg => rfl); (case hr => first | (go_simp; done) | (go_simp; rfl)); intro gb325 hg w6 hbox hb; have BK325 := Aside0.mk (hbox); have GW325 := Aside0.mk ((dS_ hg (dL_ HB) : w.heap.size ≤ gb325)); have GE325 := Aside0.mk ((dS_ hg (dL_ HB) : w.heap.size ≤ gb325)); replace HB := Aside0.mk (below_step (dL_ HB) hb); clear hb hbox hg))
 (try simp only [Act.put, sI_, s0_, sS_])
 go_cut [42] (fun v42 wc => ∃ (kq : Nat) (x42_4 : Bool), v42 = .bool x42_4 ∧ Aside0 (hinterlandref02_Grow.j0 kq a0 a1 a2 a3 x42_4 = some (r1, r2, r3, r4)) ∧ Aside0 (kq ≤ k) ∧ Aside0 (wc.heap[gb325]? = some (.cells #[.int .i64 0, .int .i64 0, (.slice none 0 0)] 24 (0, 0))) ∧ Aside0 (Below w.heap.size w wc))
 case first =>
  have H := HC5.out
  clear HC5
  replace H := Option.bind_eq_some_iff.mp H
  obtain ⟨t326, A70, H⟩ := H
  replace H : (if t326 = true then ((hinterlandref02_side.f a2).bind fun t327 => (if t327 = true then (if a3 < 0 then (hinterlandref02_Grow.j0 k a0 a1 a2 a3 true) else (hinterlandref02_Grow.j0 k a0 a1 a2 a3 (decide (a3 > 4)))) else (hinterlandref02_Grow.j0 k a0 a1 a2 a3 true))) else (hinterlandref02_Grow.j0 k a0 a1 a2 a3 true)) = some (r1, r2, r3, r4) := H
  have A7 := Aside0.mk A70
  clear A70
  by_cases c8 : t326 = true
  ·subst c8
   have H1 : ((hinterlandref02_side.f a2).bind fun t327 => (if t327 = true then (if a3 < 0 then (hinterlandref02_Grow.j0 k a0 a1 a2 a3 true) else (hinterlandref02_Grow.j0 k a0 a1 a2 a3 (decide (a3 > 4)))) else (hinterlandref02_Grow.j0 k a0 a1 a2 a3 true))) = some (r1, r2, r3, r4) := by rw [if_pos rfl] at H; exact H
   clear H
   have H := H1
   clear H1
   replace H := Option.bind_eq_some_iff.mp H
   obtain ⟨t327, A90, H⟩ := H
   replace H : (if t327 = true then (if a3 < 0 then (hinterlandref02_Grow.j0 k a0 a1 a2 a3 true) else (hinterlandref02_Grow.j0 k a0 a1 a2 a3 (decide (a3 > 4)))) else (hinterlandref02_Grow.j0 k a0 a1 a2 a3 true)) = some (r1, r2, r3, r4) := H
   have A9 := Aside0.mk A90
   clear A90
   by_cases c10 : t327 = true
   ·subst c10
    have H1 : (if a3 < 0 then (hinterlandref02_Grow.j0 k a0 a1 a2 a3 true) else (hinterlandref02_Grow.j0 k a0 a1 a2 a3 (decide (a3 > 4)))) = some (r1, r2, r3, r4) := by rw [if_pos rfl] at H; exact H
    clear H
    have H := H1
    clear H1
    by_cases c11 : a3 < 0
    ·rw [if_pos c11] at H
     have c11b0 : decide (a3 < 0) = true := decide_eq_true c11
     clear c11
     (first | rw [c11b0] | (simp only [i64_w, i32_w]; rw [c11b0]) | skip)
     have H' := Aside0.mk H
     clear H
     go_wp2_with (first | ((with_reducible refine gate_callee (f := 27) rfl ?_); refine goesL_ (some 28) rfl rfl Try.func27 (by kernel_rfl) rfl #[.int .i64 a1] rfl tA_ ?_; (with_reducible refine (hinterlandref02_side.calls a1 true _ A7.out).mono ?_); rintro e w' ⟨rfl, ⟨nd, rfl⟩⟩; refine ⟨_, rfl, ?_⟩) | (go_at_call 27; (with_reducible refine (hinterlandref02_side.calls a2 true _ A9.out).mono ?_); rintro e w' ⟨rfl, ⟨nd, rfl⟩⟩))
     go_meet
     case rel => exact ⟨_, (true), tS_, H', ⟨by first | omega | exact Nat.le_refl _⟩, ⟨dB_ BK325⟩, ⟨dL1_ HB GE325⟩⟩
    ·rw [if_neg c11] at H
     have c11b0 : decide (a3 < 0) = false := decide_eq_false c11
     clear c11
     (first | rw [c11b0] | (simp only [i64_w, i32_w]; rw [c11b0]) | skip)
     have H' := Aside0.mk H
     clear H
     go_wp2_with (first | ((with_reducible refine gate_callee (f := 27) rfl ?_); refine goesL_ (some 28) rfl rfl Try.func27 (by kernel_rfl) rfl #[.int .i64 a1] rfl tA_ ?_; (with_reducible refine (hinterlandref02_side.calls a1 true _ A7.out).mono ?_); rintro e w' ⟨rfl, ⟨nd, rfl⟩⟩; refine ⟨_, rfl, ?_⟩) | (go_at_call 27; (with_reducible refine (hinterlandref02_side.calls a2 true _ A9.out).mono ?_); rintro e w' ⟨rfl, ⟨nd, rfl⟩⟩))
     go_meet
     case rel => exact ⟨_, (decide (a3 > 4)), tS_, H', ⟨by first | omega | exact Nat.le_refl _⟩, ⟨dB_ BK325⟩, ⟨dL1_ HB GE325⟩⟩
   ·replace c10 := Bool.eq_false_iff.mpr c10
    subst c10
    have H1 : (hinterlandref02_Grow.j0 k a0 a1 a2 a3 true) = some (r1, r2, r3, r4) := by rw [if_neg (show ¬ (false = true) by decide)] at H; exact H
    clear H
    have H := H1
    clear H1
    have H' := Aside0.mk H
    clear H
    go_wp2_with (first | ((with_reducible refine gate_callee (f := 27) rfl ?_); refine goesL_ (some 28) rfl rfl Try.func27 (by kernel_rfl) rfl #[.int .i64 a1] rfl tA_ ?_; (with_reducible refine (hinterlandref02_side.calls a1 true _ A7.out).mono ?_); rintro e w' ⟨rfl, ⟨nd, rfl⟩⟩; refine ⟨_, rfl, ?_⟩) | (go_at_call 27; (with_reducible refine (hinterlandref02_side.calls a2 false _ A9.out).mono ?_); rintro e w' ⟨rfl, ⟨nd, rfl⟩⟩))
    go_meet
    case rel => exact ⟨_, (true), tS_, H', ⟨by first | omega | exact Nat.le_refl _⟩, ⟨dB_ BK325⟩, ⟨dL1_ HB GE325⟩⟩
  ·replace c8 := Bool.eq_false_iff.mpr c8
   subst c8
   have H1 : (hinterlandref02_Grow.j0 k a0 a1 a2 a3 true) = some (r1, r2, r3, r4) := by rw [if_neg (show ¬ (false = true) by decide)] at H; exact H
   clear H
   have H := H1
   clear H1
   have H' := Aside0.mk H
   clear H
   go_wp2_with (first | ((with_reducible refine gate_callee (f := 27) rfl ?_); refine goesL_ (some 28) rfl rfl Try.func27 (by kernel_rfl) rfl #[.int .i64 a1] rfl tA_ ?_; (with_reducible refine (hinterlandref02_side.calls a1 false _ A7.out).mono ?_); rintro e w' ⟨rfl, ⟨nd, rfl⟩⟩; refine ⟨_, rfl, ?_⟩))
   go_meet
   case rel => exact ⟨_, (true), tS_, H', ⟨by first | omega | exact Nat.le_refl _⟩, ⟨dB_ BK325⟩, ⟨dL1_ HB GE325⟩⟩
 case rest =>
  clear HC5
  try clear c11
  obtain ⟨kq, x42_4, rfl, HA, HJ4, BK325, HB⟩ := hcut
  cases kq with
  | zero => exact absurd HA.out (by simp [hinterlandref02_Grow.j0])
  | succ kj4 =>
   have H := HA.out
   clear HA
   simp only [hinterlandref02_Grow.j0] at H
   by_cases c12 : x42_4 = true
   ·subst c12
    have H1 : (some (0, 0, ([] : List Int), 1)) = some (r1, r2, r3, r4) := by rw [if_pos rfl] at H; exact H
    clear H
    have H := H1
    clear H1
    simp only [Option.some.injEq, Prod.mk.injEq] at H
    obtain ⟨rfl, rfl, rfl, rfl⟩ := H
    obtain ⟨hcz13_0, hcz13_1, hcz13_2, hfz13_0, hfz13_1, hfz13_2⟩ := cs3_ BK325.out
    go_wp2
    refine bodyPost_ret (results_ct rfl _ _ gb325 24 #[.int .i64 0, .int .i64 0, .slice none 0 0] (0, 0) _ rfl (by (with_reducible repeat (first | refine blk_drewN ?_ _ | refine blk_drew ?_ | refine blk_alloc ?_ _)); refine blk_put (cs := #[.int .i64 0, .int .i64 0, .slice none 0 0]) ?_ 2 _ rfl; (with_reducible repeat (first | refine blk_drewN ?_ _ | refine blk_drew ?_ | refine blk_alloc ?_ _)); refine blk_put (cs := #[.int .i64 0, .int .i64 0, .slice none 0 0]) ?_ 1 _ rfl; (with_reducible repeat (first | refine blk_drewN ?_ _ | refine blk_drew ?_ | refine blk_alloc ?_ _)); refine blk_put (cs := #[.int .i64 0, .int .i64 0, .slice none 0 0]) ?_ 0 _ rfl; (with_reducible repeat (first | refine blk_drewN ?_ _ | refine blk_drew ?_ | refine blk_alloc ?_ _)); exact BK325.out) Try.underlying24 rfl (by kernel_rfl)) rfl ?_
    exact ⟨_, tE_, by first | exact Kd.R_nil _ _ _ _ _ | exact Kd.N_nil _ _ _ _ _ | exact Kd.V_nil _ _ _ _ _ | exact Kd.Q_nil _ _ _ _ _ | exact Kd.S_nil _ _ _ _ _, dL1_ HB GE325⟩
   ·replace c12 := Bool.eq_false_iff.mpr c12
    subst c12
    have H1 : ((hinterlandref01_New.f kj4 a0 (⟨#[108, 97, 110, 100]⟩ : ByteArray)).bind fun t328 => (if 0 ≤ (wrap64 ((wrap64 (a1 + 1)) * (wrap64 (a2 + 1)))) then (if (wrap64 ((wrap64 (a1 + 1)) * (wrap64 (a2 + 1))) : Int).toNat ≤ 35184372088832 then ((some (([8, 4, 2, 1] : List Int) : List Int)).bind fun y333 => (hinterlandref02_Grow.l0 kj4 a1 a2 a3 (List.replicate (wrap64 ((wrap64 (a1 + 1)) * (wrap64 (a2 + 1))) : Int).toNat 0) y333 (y333.length : Int) 0 t328)) else (none)) else (none))) = some (r1, r2, r3, r4) := by rw [if_neg (show ¬ (false = true) by decide)] at H; exact H
    clear H
    have H := H1
    clear H1
    replace H := Option.bind_eq_some_iff.mp H
    obtain ⟨t328, A140, H⟩ := H
    replace H : (if 0 ≤ (wrap64 ((wrap64 (a1 + 1)) * (wrap64 (a2 + 1)))) then (if (wrap64 ((wrap64 (a1 + 1)) * (wrap64 (a2 + 1))) : Int).toNat ≤ 35184372088832 then ((some (([8, 4, 2, 1] : List Int) : List Int)).bind fun y333 => (hinterlandref02_Grow.l0 kj4 a1 a2 a3 (List.replicate (wrap64 ((wrap64 (a1 + 1)) * (wrap64 (a2 + 1))) : Int).toNat 0) y333 (y333.length : Int) 0 t328)) else (none)) else (none)) = some (r1, r2, r3, r4) := H
    have A14 := Aside0.mk A140
    clear A140
    obtain ⟨ji15, hji15⟩ : ∃ j_ : Int, (wrap64 ((wrap64 (a1 + 1)) * (wrap64 (a2 + 1)))) = j_ := ⟨_, rfl⟩
    replace H : (if 0 ≤ (ji15) then (if (ji15 : Int).toNat ≤ 35184372088832 then ((some (([8, 4, 2, 1] : List Int) : List Int)).bind fun y333 => (hinterlandref02_Grow.l0 kj4 a1 a2 a3 (List.replicate (ji15 : Int).toNat 0) y333 (y333.length : Int) 0 t328)) else (none)) else (none)) = some (r1, r2, r3, r4) := by first | (rw [hji15] at H; exact H) | (simp only [hji15] at H ⊢; exact H)
    (try rw [hji15] at A14)
    have hji15w : (IntKind.i64.wrap ((wrap64 (a1 + 1)) * (wrap64 (a2 + 1)))) = ji15 := (i64_w _).trans hji15
    by_cases c16 : 0 ≤ (ji15)
    ·rw [if_pos c16] at H
     have c16b0 := eq_true c16
     have c16b1 : decide (0 ≤ (ji15)) = true := decide_eq_true c16
     clear c16
     by_cases c17 : (ji15 : Int).toNat ≤ 35184372088832
     ·rw [if_pos c17] at H
      have c17b0 := eq_true c17
      have c17b1 : decide ((ji15 : Int).toNat ≤ 35184372088832) = true := decide_eq_true c17
      clear c17
      obtain ⟨y330, hy330⟩ : ∃ y_ : List Int, y_ = (List.replicate (ji15 : Int).toNat 0) := ⟨_, rfl⟩
      replace H : ((some (([8, 4, 2, 1] : List Int) : List Int)).bind fun y333 => (hinterlandref02_Grow.l0 kj4 a1 a2 a3 y330 y333 (y333.length : Int) 0 t328)) = some (r1, r2, r3, r4) := by first | (rw [hy330]; with_reducible exact H) | (have H2_ := (Option.bind_some _ _).symm.trans H; rw [hy330]; with_reducible exact H2_) | (have H2_ := (Option.bind_some _ _).symm.trans H; with_reducible exact H2_) | with_reducible exact H | (rw [hy330]; exact H) | exact H
      have Ny330 := Aside0.mk hy330
      clear hy330
      obtain ⟨y333, hy333⟩ : ∃ y_ : List Int, y_ = (([8, 4, 2, 1] : List Int)) := ⟨_, rfl⟩
      replace H : (hinterlandref02_Grow.l0 kj4 a1 a2 a3 y330 y333 (y333.length : Int) 0 t328) = some (r1, r2, r3, r4) := by first | (rw [hy333]; with_reducible exact H) | (have H2_ := (Option.bind_some _ _).symm.trans H; rw [hy333]; with_reducible exact H2_) | (have H2_ := (Option.bind_some _ _).symm.trans H; with_reducible exact H2_) | with_reducible exact H | (rw [hy333]; exact H) | exact H
      have Ny333 := Aside0.mk hy333
      clear hy333
      have H' := Aside0.mk H
      clear H
      go_wp2_with (first | ((with_reducible refine gate_callee (f := 28) rfl ?_); refine goesL_ (some 45) rfl rfl Try.func28 (by kernel_rfl) rfl #[.int .u64 a0, .string (⟨#[108, 97, 110, 100]⟩ : ByteArray)] rfl tA_ ?_; (with_reducible refine (hinterlandref01_New.calls kj4 a0 (⟨#[108, 97, 110, 100]⟩ : ByteArray) t328 _ A14.out).mono ?_); rintro e w18 ⟨rfl, hb⟩; refine ⟨_, rfl, ?_⟩; replace BK325 := Aside0.mk (blk_below (g := gb325) (o := .cells #[.int .i64 0, .int .i64 0, .slice none 0 0] 24 (0, 0)) (dB_ BK325) hb); replace HB := Aside0.mk (below_step (dL1_ HB GE325) hb)) | ((with_reducible refine gate_dst (N := 10) rfl ?_); refine box_event ?hg (N := 10) ?hd (cs := #[.int .u64 0]) (t := 52) ?hr ?_; (case hd => rfl); (case hg => rfl); (case hr => first | (go_simp; done) | (go_simp; rfl)); intro gb329 hg w19 hbox hb; have BK329 := Aside0.mk (hbox); have GW329 := Aside0.mk ((dS_ hg (dL1_ HB GE325) : w.heap.size ≤ gb329)); have GE329 := Aside0.mk ((dS_ hg (dL1_ HB GE325) : w.heap.size ≤ gb329)); replace HB := Aside0.mk (below_step (dL1_ HB GE325) hb); have NB325_329 := Aside0.mk ((by rw [hg]; exact Nat.ne_of_lt (blk_lt (dB_ BK325)) : gb325 ≠ gb329)); have NB329_325 := Aside0.mk ((by rw [hg]; exact Nat.ne_of_gt (blk_lt (dB_ BK325)) : gb329 ≠ gb325)); replace BK325 := Aside0.mk (blk_below (g := gb325) (o := .cells #[.int .i64 0, .int .i64 0, .slice none 0 0] 24 (0, 0)) (dB_ BK325) hb); clear hb hbox hg; have hnb20 := NB329_325.out; have hnc20 := NB325_329.out; have hcz21_0 : w19.cell? ⟨gb329, 0, none⟩ = some (.int .u64 0) := (blk_cell BK329.out 0).trans rfl; have hfz21_0 := blk_frozen BK329.out 0) | ((with_reducible refine gate_dst (N := 51) rfl ?_); refine Kd.R_make (Kd.int .i64) _ 3 rfl (N := 51) rfl 22 _ _ rfl ji15 rfl rfl Try.underlying22 (.int .i64 0) 8 info3 rfl (by decide) (by omega) 0 (ok := fun _ => True) (okp := fun _ => True) rfl (fun _ hk => hk) trivial (of_decide_eq_true tW_) (Nat.le_trans (Nat.mul_le_mul_right _ (of_decide_eq_true tW_ : ji15.toNat ≤ 35184372088832)) (by omega)) (Below.refl _ _) (Nat.le_refl _) ?_; intro v331 w22 ho23 hb hg_ hnew_; clear hg_ hnew_; (first | rw [← Ny330.out] at ho23 | (simp only [Int.reduceToNat] at ho23; rw [← Ny330.out] at ho23)); have HO332 := Aside0.mk (Kd.R_lower ho23 (below_size (dL2_ HB GE325 GE329))); replace BK325 := Aside0.mk (blk_below (g := gb325) (o := .cells #[.int .i64 0, .int .i64 0, .slice none 0 0] 24 (0, 0)) (by (with_reducible repeat (first | refine blk_drewN ?_ _ | refine blk_drew ?_ | refine blk_alloc ?_ _)); refine blk_far ?_ NB325_329.out _; (with_reducible repeat (first | refine blk_drewN ?_ _ | refine blk_drew ?_ | refine blk_alloc ?_ _)); exact BK325.out) hb); replace BK329 := Aside0.mk (blk_below (g := gb329) (o := .cells #[.int .u64 t328] 52 (0, 0)) (by (with_reducible repeat (first | refine blk_drewN ?_ _ | refine blk_drew ?_ | refine blk_alloc ?_ _)); refine blk_put (cs := #[.int .u64 0]) ?_ 0 _ rfl; (with_reducible repeat (first | refine blk_drewN ?_ _ | refine blk_drew ?_ | refine blk_alloc ?_ _)); exact BK329.out) hb); replace HB := Aside0.mk (below_step (dL2_ HB GE325 GE329) hb); clear hb ho23) | ((with_reducible refine gate_dst (N := 52) rfl ?_); refine Kd.R_lit (Kd.int .i64) _ 3 ?hg (N := 52) ?hd (xs := ([8, 4, 2, 1] : List Int)) (inner := [.int .i64 8, .int .i64 4, .int .i64 2, .int .i64 1]) (ok := fun _ => True) (okp := fun _ => True) ?hr ?hp (fun _ hk => hk) trivial (Below.refl _ _) (Nat.le_refl _) (by simp) ?_; (case hd => rfl); (case hg => rfl); (case hr => first | (go_simp; done) | (go_simp; rfl)); (case hp => exact (Reps.one (show Kd.M (Kd.int .i64) _ _ _ 8 [.int .i64 8] from rfl) (Reps.one (show Kd.M (Kd.int .i64) _ _ _ 4 [.int .i64 4] from rfl) (Reps.one (show Kd.M (Kd.int .i64) _ _ _ 2 [.int .i64 2] from rfl) (Reps.one (show Kd.M (Kd.int .i64) _ _ _ 1 [.int .i64 1] from rfl) (Reps.none _ _)))))); intro v334 w24 ho25 hb hg_ hnew_; clear hg_ hnew_; (first | rw [← Ny333.out] at ho25 | (simp only [Int.reduceToNat] at ho25; rw [← Ny333.out] at ho25)); have HO335 := Aside0.mk (Kd.R_lower (Kd.R_new' ho25 (Kd.R_lt (dR_ HO332))) (below_size (dL2_ HB GE325 GE329))); replace HO332 := Aside0.mk (Kd.R_elder' (dR_ HO332) (Kd.R_base ho25) hb); replace BK325 := Aside0.mk (blk_below (g := gb325) (o := .cells #[.int .i64 0, .int .i64 0, .slice none 0 0] 24 (0, 0)) (dB_ BK325) hb); replace BK329 := Aside0.mk (blk_below (g := gb329) (o := .cells #[.int .u64 t328] 52 (0, 0)) (dB_ BK329) hb); replace HB := Aside0.mk (below_step (dL2_ HB GE325 GE329) hb); clear hb ho25; obtain ⟨Ao26, co26, eo26⟩ := Kd.R_slice HO335.out; subst eo26))
      go_loopg [54] kj4 (fun kq v54 w' => ∃ (x11_2 : List Int) (x52_2 : List Int) (x54_2 : Int) (x330000_2 : Int), v54 = .int .i64 x54_2 ∧ Aside0 (hinterlandref02_Grow.l0 kq a1 a2 a3 x11_2 x52_2 (y333.length : Int) x54_2 x330000_2 = some (r1, r2, r3, r4)) ∧ Aside0 (kq ≤ kj4) ∧ Aside0 (Kd.R (Kd.int .i64) 3 w' w.heap.size (fun k_ => some k_ ≠ ((.slice Ao26 y333.length co26) : Value).ownBlock) v331 x11_2) ∧ Aside0 (Kd.R (Kd.int .i64) 3 w' w.heap.size (fun k_ => some k_ ≠ (v331 : Value).ownBlock) (.slice Ao26 y333.length co26) x52_2) ∧ Aside0 (w'.heap[gb325]? = some (.cells #[.int .i64 0, .int .i64 0, (.slice none 0 0)] 24 (0, 0))) ∧ Aside0 (w'.heap[gb329]? = some (.cells #[.int .u64 x330000_2] 52 (0, 0))) ∧ Aside0 (Below w.heap.size w w'))
      case atStart => exact ⟨(y330), (y333), (0), (t328), tS_, H', ⟨Nat.le_refl _⟩, ⟨by (with_reducible repeat (first | apply Kd.R_alloc | apply Kd.R_drewN | apply Kd.R_drew)); exact Kd.R_mono HO332.out (fun _ hk => hk.2)⟩, ⟨by (with_reducible repeat (first | apply Kd.R_alloc | apply Kd.R_drewN | apply Kd.R_drew)); exact Kd.R_mono HO335.out (fun _ hk => hk.2)⟩, ⟨dB_ BK325⟩, ⟨dB_ BK329⟩, ⟨dL2_ HB GE325 GE329⟩⟩
      case round =>
       clear H'
       try clear c11
       try clear c12
       try clear c16
       try clear c16b0
       try clear c16b1
       try clear c17
       try clear c17b0
       try clear c17b1
       try clear hcz21_0
       try clear hfz21_0
       obtain ⟨x11_2, x52_2, x54_2, x330000_2, rfl, HA, HK2, HO_11, HO_52, BK325, BK329, HB⟩ := hrel
       have hl52_2 := (Kd.R_reads' HO_52.out).1
       rw [hl52_2] at HO_52
       (try simp only [hl52_2])
       (try simp only [hl52_2] at BK325)
       (try simp only [hl52_2] at BK329)
       (try simp only [hl52_2] at HO_11)
       cases gk with
       | zero => exact absurd HA.out (by simp [hinterlandref02_Grow.l0])
       | succ k2 =>
        have H := HA.out
        clear HA
        simp only [hinterlandref02_Grow.l0] at H
        by_cases c27 : x54_2 < (y333.length : Int)
        ·rw [if_pos c27] at H
         have c27b0 : decide (x54_2 < (y333.length : Int)) = true := decide_eq_true c27
         clear c27
         (try (have c27y0 := c27b0; simp only [hl52_2] at c27y0))
         (try (have c27y1 := c27b1; simp only [hl52_2] at c27y1))
         (try (have c27y2 := c27b2; simp only [hl52_2] at c27y2))
         by_cases c28 : 0 ≤ x54_2
         ·rw [if_pos c28] at H
          have c28b0 : decide (0 ≤ x54_2) = true := decide_eq_true c28
          clear c28
          (try (have c28y0 := c28b0; simp only [hl52_2] at c28y0))
          (try (have c28y1 := c28b1; simp only [hl52_2] at c28y1))
          (try (have c28y2 := c28b2; simp only [hl52_2] at c28y2))
          by_cases c29 : x54_2 < (x52_2.length : Int)
          ·rw [if_pos c29] at H
           have c29b0 : decide (x54_2 < (x52_2.length : Int)) = true := decide_eq_true c29
           clear c29
           (try (have c29y0 := c29b0; simp only [hl52_2] at c29y0))
           (try (have c29y1 := c29b1; simp only [hl52_2] at c29y1))
           (try (have c29y2 := c29b2; simp only [hl52_2] at c29y2))
           by_cases c30 : (rd x52_2 x54_2) = 0
           ·rw [if_pos c30] at H
            exact absurd H (by simp)
           ·rw [if_neg c30] at H
            have c30b0 : ((rd x52_2 x54_2) == 0) = false := beq_eq_false_iff_ne.mpr c30
            have c30b1 : ((rd x52_2 x54_2) != 0) = true := bne_iff_ne.mpr c30
            (try (have c30y0 := c30b0; simp only [hl52_2] at c30y0))
            (try (have c30y1 := c30b1; simp only [hl52_2] at c30y1))
            (try (have c30y2 := c30b2; simp only [hl52_2] at c30y2))
            obtain ⟨ji31, hji31⟩ : ∃ j_ : Int, (wrap64 ((wrap64 ((wrap64 (Int.tdiv a1 (rd x52_2 x54_2))) + 2)) * (wrap64 ((wrap64 (Int.tdiv a2 (rd x52_2 x54_2))) + 2)))) = j_ := ⟨_, rfl⟩
            replace H : (if 0 ≤ (ji31) then (if (ji31 : Int).toNat ≤ 35184372088832 then ((some (List.replicate (ji31 : Int).toNat 0 : List Int)).bind fun y337 => (hinterlandref02_Grow.l1 k2 a1 a2 a3 x11_2 (rd x52_2 x54_2) (wrap64 ((wrap64 (Int.tdiv a1 (rd x52_2 x54_2))) + 2)) y337 x52_2 (y333.length : Int) x54_2 (y337.length : Int) 0 x330000_2)) else (none)) else (none)) = some (r1, r2, r3, r4) := by first | (rw [hji31] at H; exact H) | (simp only [hji31] at H ⊢; exact H)
            have hji31w : (IntKind.i64.wrap ((wrap64 ((wrap64 (Int.tdiv a1 (rd x52_2 x54_2))) + 2)) * (wrap64 ((wrap64 (Int.tdiv a2 (rd x52_2 x54_2))) + 2)))) = ji31 := (i64_w _).trans hji31
            by_cases c32 : 0 ≤ (ji31)
            ·rw [if_pos c32] at H
             have c32b0 := eq_true c32
             have c32b1 : decide (0 ≤ (ji31)) = true := decide_eq_true c32
             clear c32
             (try (have c32y0 := c32b0; simp only [hl52_2] at c32y0))
             (try (have c32y1 := c32b1; simp only [hl52_2] at c32y1))
             (try (have c32y2 := c32b2; simp only [hl52_2] at c32y2))
             by_cases c33 : (ji31 : Int).toNat ≤ 35184372088832
             ·rw [if_pos c33] at H
              have c33b0 := eq_true c33
              have c33b1 : decide ((ji31 : Int).toNat ≤ 35184372088832) = true := decide_eq_true c33
              clear c33
              (try (have c33y0 := c33b0; simp only [hl52_2] at c33y0))
              (try (have c33y1 := c33b1; simp only [hl52_2] at c33y1))
              (try (have c33y2 := c33b2; simp only [hl52_2] at c33y2))
              obtain ⟨y337, hy337⟩ : ∃ y_ : List Int, y_ = (List.replicate (ji31 : Int).toNat 0) := ⟨_, rfl⟩
              replace H : (hinterlandref02_Grow.l1 k2 a1 a2 a3 x11_2 (rd x52_2 x54_2) (wrap64 ((wrap64 (Int.tdiv a1 (rd x52_2 x54_2))) + 2)) y337 x52_2 (y333.length : Int) x54_2 (y337.length : Int) 0 x330000_2) = some (r1, r2, r3, r4) := by first | (rw [hy337]; with_reducible exact H) | (have H2_ := (Option.bind_some _ _).symm.trans H; rw [hy337]; with_reducible exact H2_) | (have H2_ := (Option.bind_some _ _).symm.trans H; with_reducible exact H2_) | with_reducible exact H | (rw [hy337]; exact H) | exact H
              have Ny337 := Aside0.mk hy337
              clear hy337
              have H' := Aside0.mk H
              clear H
              have p336 : 0 ≤ (x54_2 : Int) := of_decide_eq_true tW_
              have q336 : x54_2 < (x52_2.length : Int) := of_decide_eq_true tW_
              obtain ⟨ad336, e336, hx336_0⟩ := Kd.at_int (Kd.R_reads' HO_52.out).2.2 x54_2 p336 q336
              cases e336
              replace p336 := eq_true p336
              replace q336 := eq_true q336
              go_wp2_with (first | ((with_reducible refine gate_dst (N := 68) rfl ?_); refine Kd.R_make (Kd.int .i64) _ 3 rfl (N := 68) rfl 22 _ _ rfl ji31 rfl rfl Try.underlying22 (.int .i64 0) 8 info3 rfl (by decide) (by omega) 0 (ok := fun _ => True) (okp := fun _ => True) rfl (fun _ hk => hk) trivial (of_decide_eq_true tW_) (Nat.le_trans (Nat.mul_le_mul_right _ (of_decide_eq_true tW_ : ji31.toNat ≤ 35184372088832)) (by omega)) (Below.refl _ _) (Nat.le_refl _) ?_; intro v338 w34 ho35 hb hg_ hnew_; clear hg_ hnew_; (first | rw [← Ny337.out] at ho35 | (simp only [Int.reduceToNat] at ho35; rw [← Ny337.out] at ho35)); have HO339 := Aside0.mk (Kd.R_lower (Kd.R_new' (Kd.R_new' ho35 (Kd.R_lt (dR_ HO_11))) (Kd.R_lt (dR_ HO_52))) (below_size (dL2_ HB GE325 GE329))); replace HO_11 := Aside0.mk (Kd.R_elder' (dR_ HO_11) (Kd.R_base ho35) hb); replace HO_52 := Aside0.mk (Kd.R_elder' (dR_ HO_52) (Kd.R_base ho35) hb); replace BK325 := Aside0.mk (blk_below (g := gb325) (o := .cells #[.int .i64 0, .int .i64 0, .slice none 0 0] 24 (0, 0)) (dB_ BK325) hb); replace BK329 := Aside0.mk (blk_below (g := gb329) (o := .cells #[.int .u64 x330000_2] 52 (0, 0)) (dB_ BK329) hb); replace HB := Aside0.mk (below_step (dL2_ HB GE325 GE329) hb); clear hb ho35; obtain ⟨Ao36, co36, eo36⟩ := Kd.R_slice HO339.out; subst eo36))
              go_loopg [71] k2 (fun kq v71 w' => ∃ (x15_3 : List Int) (x71_3 : Int) (x330000_3 : Int), v71 = .int .i64 x71_3 ∧ Aside0 (hinterlandref02_Grow.l1 kq a1 a2 a3 x11_2 (rd x52_2 x54_2) (wrap64 ((wrap64 (Int.tdiv a1 (rd x52_2 x54_2))) + 2)) x15_3 x52_2 (y333.length : Int) x54_2 (y337.length : Int) x71_3 x330000_3 = some (r1, r2, r3, r4)) ∧ Aside0 (kq ≤ k2) ∧ Aside0 (Kd.R (Kd.int .i64) 3 w' w.heap.size (fun k_ => some k_ ≠ ((.slice Ao36 y337.length co36) : Value).ownBlock ∧ some k_ ≠ ((.slice (some ad336) x52_2.length co26) : Value).ownBlock) v331 x11_2) ∧ Aside0 (Kd.R (Kd.int .i64) 3 w' w.heap.size (fun k_ => some k_ ≠ (v331 : Value).ownBlock ∧ some k_ ≠ ((.slice (some ad336) x52_2.length co26) : Value).ownBlock) (.slice Ao36 y337.length co36) x15_3) ∧ Aside0 (Kd.R (Kd.int .i64) 3 w' w.heap.size (fun k_ => some k_ ≠ (v331 : Value).ownBlock ∧ some k_ ≠ ((.slice Ao36 y337.length co36) : Value).ownBlock) (.slice (some ad336) x52_2.length co26) x52_2) ∧ Aside0 (w'.heap[gb325]? = some (.cells #[.int .i64 0, .int .i64 0, (.slice none 0 0)] 24 (0, 0))) ∧ Aside0 (w'.heap[gb329]? = some (.cells #[.int .u64 x330000_3] 52 (0, 0))) ∧ Aside0 (Below w.heap.size w w'))
              case atStart => exact ⟨(y337), (0), (x330000_2), tS_, H', ⟨Nat.le_refl _⟩, ⟨by (try simp only [hl52_2]); (with_reducible repeat (first | apply Kd.R_alloc | apply Kd.R_drewN | apply Kd.R_drew)); exact Kd.R_mono HO_11.out (fun _ hk => ⟨hk.2, hk.1⟩)⟩, ⟨by (try simp only [hl52_2]); (with_reducible repeat (first | apply Kd.R_alloc | apply Kd.R_drewN | apply Kd.R_drew)); exact Kd.R_mono HO339.out (fun _ hk => ⟨hk.1.2, hk.2⟩)⟩, ⟨by (try simp only [hl52_2]); (with_reducible repeat (first | apply Kd.R_alloc | apply Kd.R_drewN | apply Kd.R_drew)); exact HO_52.out⟩, ⟨by (try simp only [hl52_2]); (with_reducible repeat (first | refine blk_drewN ?_ _ | refine blk_drew ?_ | refine blk_alloc ?_ _)); exact BK325.out⟩, ⟨by (try simp only [hl52_2]); (with_reducible repeat (first | refine blk_drewN ?_ _ | refine blk_drew ?_ | refine blk_alloc ?_ _)); exact BK329.out⟩, ⟨dL2_ HB GE325 GE329⟩⟩
              case round =>
               clear H'
               try clear c11
               try clear c12
               try clear c16
               try clear c16b0
               try clear c16b1
               try clear c17
               try clear c17b0
               try clear c17b1
               try clear c27
               try clear c27b0
               try clear c27b1
               try clear c27b2
               try clear c28
               try clear c28b0
               try clear c28b1
               try clear c28b2
               try clear c29
               try clear c29b0
               try clear c29b1
               try clear c29b2
               try clear c30
               try clear c30b0
               try clear c30b1
               try clear c30b2
               try clear c32
               try clear c32b0
               try clear c32b1
               try clear c32b2
               try clear c33
               try clear c33b0
               try clear c33b1
               try clear c33b2
               try clear hcz21_0
               try clear hfz21_0
               try clear hx336_0
               try clear p336
               try clear q336
               obtain ⟨x15_3, x71_3, x330000_3, rfl, HA, HK3, HO_11, HO_15, HO_52, BK325, BK329, HB⟩ := hrel
               have hl15_3 := (Kd.R_reads' HO_15.out).1
               rw [hl15_3] at HO_15
               (try simp only [hl15_3])
               (try simp only [hl15_3] at BK325)
               (try simp only [hl15_3] at BK329)
               (try simp only [hl15_3] at HO_11)
               (try simp only [hl15_3] at HO_52)
               cases gk with
               | zero => exact absurd HA.out (by simp [hinterlandref02_Grow.l1])
               | succ k3 =>
                have H := HA.out
                clear HA
                simp only [hinterlandref02_Grow.l1] at H
                by_cases c37 : x71_3 < (y337.length : Int)
                ·rw [if_pos c37] at H
                 have c37b0 : decide (x71_3 < (y337.length : Int)) = true := decide_eq_true c37
                 clear c37
                 (try (have c37y0 := c37b0; simp only [hl52_2, hl15_3] at c37y0))
                 (try (have c37y1 := c37b1; simp only [hl52_2, hl15_3] at c37y1))
                 (try (have c37y2 := c37b2; simp only [hl52_2, hl15_3] at c37y2))
                 replace H := Option.bind_eq_some_iff.mp H
                 obtain ⟨⟨t340, t341⟩, A380, H⟩ := H
                 replace H : (if 0 ≤ x71_3 then (if x71_3 < (x15_3.length : Int) then (hinterlandref02_Grow.l1 k3 a1 a2 a3 x11_2 (rd x52_2 x54_2) (wrap64 ((wrap64 (Int.tdiv a1 (rd x52_2 x54_2))) + 2)) (x15_3.set (x71_3 : Int).toNat t340) x52_2 (y333.length : Int) x54_2 (y337.length : Int) (wrap64 (x71_3 + 1)) t341) else (none)) else (none)) = some (r1, r2, r3, r4) := H
                 have A38 := Aside0.mk A380
                 clear A380
                 by_cases c39 : 0 ≤ x71_3
                 ·rw [if_pos c39] at H
                  have c39b0 : decide (0 ≤ x71_3) = true := decide_eq_true c39
                  clear c39
                  (try (have c39y0 := c39b0; simp only [hl52_2, hl15_3] at c39y0))
                  (try (have c39y1 := c39b1; simp only [hl52_2, hl15_3] at c39y1))
                  (try (have c39y2 := c39b2; simp only [hl52_2, hl15_3] at c39y2))
                  by_cases c40 : x71_3 < (x15_3.length : Int)
                  ·rw [if_pos c40] at H
                   have c40b0 : decide (x71_3 < (x15_3.length : Int)) = true := decide_eq_true c40
                   clear c40
                   (try (have c40y0 := c40b0; simp only [hl52_2, hl15_3] at c40y0))
                   (try (have c40y1 := c40b1; simp only [hl52_2, hl15_3] at c40y1))
                   (try (have c40y2 := c40b2; simp only [hl52_2, hl15_3] at c40y2))
                   obtain ⟨y343, hy343⟩ : ∃ y_ : List Int, y_ = (x15_3.set (x71_3 : Int).toNat t340) := ⟨_, rfl⟩
                   replace H : (hinterlandref02_Grow.l1 k3 a1 a2 a3 x11_2 (rd x52_2 x54_2) (wrap64 ((wrap64 (Int.tdiv a1 (rd x52_2 x54_2))) + 2)) y343 x52_2 (y333.length : Int) x54_2 (y337.length : Int) (wrap64 (x71_3 + 1)) t341) = some (r1, r2, r3, r4) := by first | (rw [hy343]; with_reducible exact H) | (have H2_ := (Option.bind_some _ _).symm.trans H; rw [hy343]; with_reducible exact H2_) | (have H2_ := (Option.bind_some _ _).symm.trans H; with_reducible exact H2_) | with_reducible exact H | (rw [hy343]; exact H) | exact H
                   have Ny343 := Aside0.mk hy343
                   clear hy343
                   have H' := Aside0.mk H
                   clear H
                   have hnb42 := NB329_325.out
                   have hnc42 := NB325_329.out
                   have hcz43_0 : wr.cell? ⟨gb329, 0, none⟩ = some (.int .u64 x330000_3) := (blk_cell BK329.out 0).trans rfl
                   have hfz43_0 := blk_frozen BK329.out 0
                   go_wp2_with (first | ((with_reducible refine gate_callee (f := 29) rfl ?_); refine goesL_ (some 80) rfl rfl Try.func29 (by kernel_rfl) rfl #[.agg #[.int .u64 x330000_3], .int .i64 (wrap64 ((wrap64 (a3 * (rd x52_2 x54_2))) + 1))] rfl tA_ ?_; (with_reducible refine (hinterlandref01_Below.calls k3 x330000_3 (wrap64 ((wrap64 (a3 * (rd x52_2 x54_2))) + 1)) t340 t341 _ A38.out).mono ?_); rintro e w44 ⟨rfl, hb⟩; refine ⟨_, rfl, ?_⟩; replace HO_11 := Aside0.mk (Kd.R_below (dR_ HO_11) hb); replace HO_15 := Aside0.mk (Kd.R_below (dR_ HO_15) hb); replace HO_52 := Aside0.mk (Kd.R_below (dR_ HO_52) hb); replace BK325 := Aside0.mk (blk_below (g := gb325) (o := .cells #[.int .i64 0, .int .i64 0, .slice none 0 0] 24 (0, 0)) (dB_ BK325) hb); replace BK329 := Aside0.mk (blk_below (g := gb329) (o := .cells #[.int .u64 x330000_3] 52 (0, 0)) (dB_ BK329) hb); replace HB := Aside0.mk (below_step (dL2_ HB GE325 GE329) hb)) | ((with_reducible refine gate_dst (N := 18) rfl ?_); refine box_event ?hg (N := 18) ?hd (cs := #[.int .u64 0]) (t := 52) ?hr ?_; (case hd => rfl); (case hg => rfl); (case hr => first | (go_simp; done) | (go_simp; rfl)); intro gb342 hg w45 hbox hb; replace HO_11 := Aside0.mk (Kd.R_below (dR_ HO_11) hb); replace HO_15 := Aside0.mk (Kd.R_below (dR_ HO_15) hb); replace HO_52 := Aside0.mk (Kd.R_below (dR_ HO_52) hb); have BK342 := Aside0.mk (hbox); have GW342 := Aside0.mk ((dS_ hg (dL2_ HB GE325 GE329) : w.heap.size ≤ gb342)); have GE342 := Aside0.mk ((dS_ hg (dL2_ HB GE325 GE329) : w.heap.size ≤ gb342)); replace HB := Aside0.mk (below_step (dL2_ HB GE325 GE329) hb); have NB325_342 := Aside0.mk ((by rw [hg]; exact Nat.ne_of_lt (blk_lt (dB_ BK325)) : gb325 ≠ gb342)); have NB342_325 := Aside0.mk ((by rw [hg]; exact Nat.ne_of_gt (blk_lt (dB_ BK325)) : gb342 ≠ gb325)); replace BK325 := Aside0.mk (blk_below (g := gb325) (o := .cells #[.int .i64 0, .int .i64 0, .slice none 0 0] 24 (0, 0)) (dB_ BK325) hb); have NB329_342 := Aside0.mk ((by rw [hg]; exact Nat.ne_of_lt (blk_lt (dB_ BK329)) : gb329 ≠ gb342)); have NB342_329 := Aside0.mk ((by rw [hg]; exact Nat.ne_of_gt (blk_lt (dB_ BK329)) : gb342 ≠ gb329)); replace BK329 := Aside0.mk (blk_below (g := gb329) (o := .cells #[.int .u64 x330000_3] 52 (0, 0)) (dB_ BK329) hb); clear hb hbox hg; have hnb46 := NB342_325.out; have hnc46 := NB325_342.out; have hnb47 := NB342_329.out; have hnc47 := NB329_342.out; have hcz48_0 : w45.cell? ⟨gb342, 0, none⟩ = some (.int .u64 0) := (blk_cell BK342.out 0).trans rfl; have hfz48_0 := blk_frozen BK342.out 0) | ((with_reducible refine gate_store (t := 52) (p := 18) rfl ?_); refine store_event (t := 52) (p := 18) (v := ?vo_w49) (w1 := (w45.setCell ⟨gb342, 0, none⟩ (.int .u64 t341))) ?hg ?ho ?hn ?hr ?_; (case ho => rfl); (case hg => rfl); (case hn => rfl); (case hr => first | (go_simp; done) | (go_simp; rfl)); intro w49 hw; have n0_ : Aside0 (Kd.R (Kd.int .i64) 3 w49 w.heap.size (fun k_ => some k_ ≠ (.slice Ao36 x15_3.length co36 : Value).ownBlock ∧ some k_ ≠ (.slice (some ad336) x52_2.length co26 : Value).ownBlock) v331 x11_2) := ⟨(by rw [hw]; exact (by (with_reducible repeat (first | apply Kd.R_alloc | apply Kd.R_drewN | apply Kd.R_drew)); exact Kd.R_mono (Kd.R_far (p := ⟨gb342, 0, none⟩) (Kd.R_types HO_11.out BK342.out (by decide)) (fun _ hk => hk.2) (.int .u64 t341)) (fun _ hk => ⟨hk.1.1, hk.1.2⟩)))⟩; have n1_ : Aside0 (Kd.R (Kd.int .i64) 3 w49 w.heap.size (fun k_ => some k_ ≠ (v331 : Value).ownBlock ∧ some k_ ≠ (.slice (some ad336) x52_2.length co26 : Value).ownBlock) (.slice Ao36 x15_3.length co36) x15_3) := ⟨(by rw [hw]; exact (by (with_reducible repeat (first | apply Kd.R_alloc | apply Kd.R_drewN | apply Kd.R_drew)); exact Kd.R_mono (Kd.R_far (p := ⟨gb342, 0, none⟩) (Kd.R_types HO_15.out BK342.out (by decide)) (fun _ hk => hk.2) (.int .u64 t341)) (fun _ hk => ⟨hk.1.1, hk.1.2⟩)))⟩; have n2_ : Aside0 (Kd.R (Kd.int .i64) 3 w49 w.heap.size (fun k_ => some k_ ≠ (v331 : Value).ownBlock ∧ some k_ ≠ (.slice Ao36 x15_3.length co36 : Value).ownBlock) (.slice (some ad336) x52_2.length co26) x52_2) := ⟨(by rw [hw]; exact (by (with_reducible repeat (first | apply Kd.R_alloc | apply Kd.R_drewN | apply Kd.R_drew)); exact Kd.R_mono (Kd.R_far (p := ⟨gb342, 0, none⟩) (Kd.R_types HO_52.out BK342.out (by decide)) (fun _ hk => hk.2) (.int .u64 t341)) (fun _ hk => ⟨hk.1.1, hk.1.2⟩)))⟩; have n3_ : Aside0 (w49.heap[gb325]? = some (.cells #[.int .i64 0, .int .i64 0, .slice none 0 0] 24 (0, 0))) := ⟨(by rw [hw]; exact (by (with_reducible repeat (first | refine blk_drewN ?_ _ | refine blk_drew ?_ | refine blk_alloc ?_ _)); refine blk_far ?_ NB325_342.out _; (with_reducible repeat (first | refine blk_drewN ?_ _ | refine blk_drew ?_ | refine blk_alloc ?_ _)); exact BK325.out))⟩; have n4_ : Aside0 (w49.heap[gb329]? = some (.cells #[.int .u64 x330000_3] 52 (0, 0))) := ⟨(by rw [hw]; exact (by (with_reducible repeat (first | refine blk_drewN ?_ _ | refine blk_drew ?_ | refine blk_alloc ?_ _)); refine blk_far ?_ NB329_342.out _; (with_reducible repeat (first | refine blk_drewN ?_ _ | refine blk_drew ?_ | refine blk_alloc ?_ _)); exact BK329.out))⟩; have n5_ : Aside0 (w49.heap[gb342]? = some (.cells #[.int .u64 t341] 52 (0, 0))) := ⟨(by rw [hw]; exact (by (with_reducible repeat (first | refine blk_drewN ?_ _ | refine blk_drew ?_ | refine blk_alloc ?_ _)); refine blk_put (cs := #[.int .u64 0]) ?_ 0 _ rfl; (with_reducible repeat (first | refine blk_drewN ?_ _ | refine blk_drew ?_ | refine blk_alloc ?_ _)); exact BK342.out))⟩; have n6_ : Aside0 (Below w.heap.size w w49) := ⟨(by rw [hw]; exact (dL3_ HB GE325 GE329 GE342))⟩; clear hw; clear HO_11; clear HO_15; clear HO_52; clear BK325; clear BK329; clear BK342; clear HB; have HO_11 := n0_; have HO_15 := n1_; have HO_52 := n2_; have BK325 := n3_; have BK329 := n4_; have BK342 := n5_; have HB := n6_; clear n0_ n1_ n2_ n3_ n4_ n5_ n6_; have p41 : 0 ≤ (x71_3 : Int) := of_decide_eq_true tW_; have q41 : (x71_3 : Int) < ((x15_3.length : Int) : Int) := of_decide_eq_true tW_; obtain ⟨go41, co41, eo41, gb41, gl41, cl41, HG41⟩ := Kd.R_form HO_15.out (by omega); (first | cases eo41 | (injection eo41 with ea_ en_ ec_; (first | subst ea_ | (injection ea_ with ea_; subst ea_)); subst ec_; clear en_)); have GB41 := Aside0.mk gb41; have GG41 := Aside0.mk HG41; clear gb41 gl41 HG41; obtain ⟨hx41_0, hf41_0⟩ := Kd.R_celln 0 HO_15.out (x71_3 : Int) p41 q41; replace p41 := eq_true p41; replace q41 := eq_true q41; obtain ⟨hy50_, hz50_⟩ := Kd.R_celln 0 HO_15.out (x71_3 : Int) (of_decide_eq_true tW_) (of_decide_eq_true tW_); have HP50 := Kd.R_putg HO_15.out (x71_3 : Int) t340) | ((with_reducible refine gate_store (t := 3) (p := 86) rfl ?_); refine store_event (t := 3) (p := 86) (v := ?vo_w51) (w1 := (w49.setCell ⟨go41, (x71_3 : Int).toNat, none⟩ (.int .i64 t340))) ?hg ?ho ?hn ?hr ?_; (case ho => rfl); (case hg => rfl); (case hn => rfl); (case hr => first | (go_simp; done) | (go_simp; rfl)); intro w51 hw; have hg : w49.grownBy w51 (some go41) := (by rw [hw]; exact HP50.2); have hp_ : Kd.R (Kd.int .i64) 3 w51 w.heap.size (fun k_ => some k_ ≠ (v331 : Value).ownBlock ∧ some k_ ≠ (.slice (some ad336) x52_2.length co26 : Value).ownBlock) (.slice (some ⟨go41, 0, none⟩) x15_3.length co36) y343 := (by rw [hw, Ny343.out]; exact HP50.1); clear HP50; replace HO_11 := Aside0.mk (Kd.R_after (v := (.slice (some ⟨go41, 0, none⟩) x15_3.length co36)) (v1 := (.slice (some ⟨go41, 0, none⟩) x15_3.length co36)) (ok := (fun k_ => some k_ ≠ (.slice (some ad336) x52_2.length co26 : Value).ownBlock)) (by (with_reducible repeat (first | apply Kd.R_alloc | apply Kd.R_drewN | apply Kd.R_drew)); exact Kd.R_mono HO_11.out (fun _ hk => ⟨hk.2, hk.1⟩)) hg (.inl rfl)); replace HO_52 := Aside0.mk (Kd.R_after (v := (.slice (some ⟨go41, 0, none⟩) x15_3.length co36)) (v1 := (.slice (some ⟨go41, 0, none⟩) x15_3.length co36)) (ok := (fun k_ => some k_ ≠ (v331 : Value).ownBlock)) (dR_ HO_52) hg (.inl rfl)); replace BK325 := Aside0.mk (blk_grown (g := gb325) (o := .cells #[.int .i64 0, .int .i64 0, .slice none 0 0] 24 (0, 0)) (dB_ BK325) hg (Kd.R_ne HO_15.out BK325.out (by decide))); replace BK329 := Aside0.mk (blk_grown (g := gb329) (o := .cells #[.int .u64 x330000_3] 52 (0, 0)) (dB_ BK329) hg (Kd.R_ne HO_15.out BK329.out (by decide))); replace BK342 := Aside0.mk (blk_grown (g := gb342) (o := .cells #[.int .u64 t341] 52 (0, 0)) (dB_ BK342) hg (Kd.R_ne HO_15.out BK342.out (by decide))); replace HO_15 := Aside0.mk (hp_); replace HB := Aside0.mk ((by rw [hw]; exact below_set (HB.out) GB41.out : Below w.heap.size w w51)); clear hg hw hp_; have hcz52_0 : w51.cell? ⟨gb342, 0, none⟩ = some (.int .u64 t341) := (blk_cell BK342.out 0).trans rfl; have hfz52_0 := blk_frozen BK342.out 0; have hcz53_0 : w51.cell? ⟨gb329, 0, none⟩ = some (.int .u64 x330000_3) := (blk_cell BK329.out 0).trans rfl; have hfz53_0 := blk_frozen BK329.out 0))
                   (try simp only [← hl15_3])
                   go_roundg k3
                   case measure => have := HJ4.out; have := HK2.out; have := HK3.out; omega
                   case rel => exact ⟨(y343), (wrap64 (x71_3 + 1)), (t341), tS_, H', ⟨by have := HJ4.out; have := HK2.out; have := HK3.out; omega⟩, ⟨by (try simp only [hl52_2]); (try simp only [hl15_3]); (with_reducible repeat (first | apply Kd.R_alloc | apply Kd.R_drewN | apply Kd.R_drew)); exact Kd.R_mono (Kd.R_far (p := ⟨gb329, 0, none⟩) (Kd.R_types HO_11.out BK329.out (by decide)) (fun _ hk => hk.2) (.int .u64 t341)) (fun _ hk => ⟨hk.1.2, hk.1.1⟩)⟩, ⟨by (try simp only [hl52_2]); (try simp only [hl15_3]); (with_reducible repeat (first | apply Kd.R_alloc | apply Kd.R_drewN | apply Kd.R_drew)); exact Kd.R_mono (Kd.R_far (p := ⟨gb329, 0, none⟩) (Kd.R_types HO_15.out BK329.out (by decide)) (fun _ hk => hk.2) (.int .u64 t341)) (fun _ hk => ⟨hk.1.1, hk.1.2⟩)⟩, ⟨by (try simp only [hl52_2]); (try simp only [hl15_3]); (with_reducible repeat (first | apply Kd.R_alloc | apply Kd.R_drewN | apply Kd.R_drew)); exact Kd.R_mono (Kd.R_far (p := ⟨gb329, 0, none⟩) (Kd.R_types HO_52.out BK329.out (by decide)) (fun _ hk => hk.2) (.int .u64 t341)) (fun _ hk => ⟨hk.1.1, hk.1.2⟩)⟩, ⟨by (try simp only [hl52_2]); (try simp only [hl15_3]); (with_reducible repeat (first | refine blk_drewN ?_ _ | refine blk_drew ?_ | refine blk_alloc ?_ _)); refine blk_far ?_ NB325_329.out _; (with_reducible repeat (first | refine blk_drewN ?_ _ | refine blk_drew ?_ | refine blk_alloc ?_ _)); exact BK325.out⟩, ⟨by (try simp only [hl52_2]); (try simp only [hl15_3]); (with_reducible repeat (first | refine blk_drewN ?_ _ | refine blk_drew ?_ | refine blk_alloc ?_ _)); refine blk_put (cs := #[.int .u64 x330000_3]) ?_ 0 _ rfl; (with_reducible repeat (first | refine blk_drewN ?_ _ | refine blk_drew ?_ | refine blk_alloc ?_ _)); exact BK329.out⟩, ⟨dL3_ HB GE325 GE329 GE342⟩⟩
                  ·rw [if_neg c40] at H
                   exact absurd H (by simp)
                 ·rw [if_neg c39] at H
                  exact absurd H (by simp)
                ·rw [if_neg c37] at H
                 have c37b0 : decide (x71_3 < (y337.length : Int)) = false := decide_eq_false c37
                 clear c37
                 (try (have c37y0 := c37b0; simp only [hl52_2, hl15_3] at c37y0))
                 (try (have c37y1 := c37b1; simp only [hl52_2, hl15_3] at c37y1))
                 (try (have c37y2 := c37b2; simp only [hl52_2, hl15_3] at c37y2))
                 have H' := Aside0.mk H
                 clear H
                 go_wp2
                 go_loopg [19] k3 (fun kq v19 w' => ∃ (x11_4 : List Int) (x19_4 : Int), v19 = .int .i64 x19_4 ∧ Aside0 (hinterlandref02_Grow.l2 kq a1 a2 a3 x11_4 (rd x52_2 x54_2) (wrap64 ((wrap64 (Int.tdiv a1 (rd x52_2 x54_2))) + 2)) x15_3 x19_4 x52_2 (y333.length : Int) x54_2 x330000_3 = some (r1, r2, r3, r4)) ∧ Aside0 (kq ≤ k3) ∧ Aside0 (Kd.R (Kd.int .i64) 3 w' w.heap.size (fun k_ => some k_ ≠ ((.slice Ao36 x15_3.length co36) : Value).ownBlock ∧ some k_ ≠ ((.slice (some ad336) x52_2.length co26) : Value).ownBlock) v331 x11_4) ∧ Aside0 (Kd.R (Kd.int .i64) 3 w' w.heap.size (fun k_ => some k_ ≠ (v331 : Value).ownBlock ∧ some k_ ≠ ((.slice (some ad336) x52_2.length co26) : Value).ownBlock) (.slice Ao36 x15_3.length co36) x15_3) ∧ Aside0 (Kd.R (Kd.int .i64) 3 w' w.heap.size (fun k_ => some k_ ≠ (v331 : Value).ownBlock ∧ some k_ ≠ ((.slice Ao36 x15_3.length co36) : Value).ownBlock) (.slice (some ad336) x52_2.length co26) x52_2) ∧ Aside0 (w'.heap[gb325]? = some (.cells #[.int .i64 0, .int .i64 0, (.slice none 0 0)] 24 (0, 0))) ∧ Aside0 (w'.heap[gb329]? = some (.cells #[.int .u64 x330000_3] 52 (0, 0))) ∧ Aside0 (Below w.heap.size w w'))
                 case atStart => exact ⟨(x11_2), (0), tS_, H', ⟨Nat.le_refl _⟩, ⟨by (try simp only [hl52_2]); (try simp only [hl15_3]); (with_reducible repeat (first | apply Kd.R_alloc | apply Kd.R_drewN | apply Kd.R_drew)); exact HO_11.out⟩, ⟨by (try simp only [hl52_2]); (try simp only [hl15_3]); (with_reducible repeat (first | apply Kd.R_alloc | apply Kd.R_drewN | apply Kd.R_drew)); exact HO_15.out⟩, ⟨by (try simp only [hl52_2]); (try simp only [hl15_3]); (with_reducible repeat (first | apply Kd.R_alloc | apply Kd.R_drewN | apply Kd.R_drew)); exact HO_52.out⟩, ⟨by (try simp only [hl52_2]); (try simp only [hl15_3]); (with_reducible repeat (first | refine blk_drewN ?_ _ | refine blk_drew ?_ | refine blk_alloc ?_ _)); exact BK325.out⟩, ⟨by (try simp only [hl52_2]); (try simp only [hl15_3]); (with_reducible repeat (first | refine blk_drewN ?_ _ | refine blk_drew ?_ | refine blk_alloc ?_ _)); exact BK329.out⟩, ⟨dL2_ HB GE325 GE329⟩⟩
                 case round =>
                  clear H'
                  try clear c11
                  try clear c12
                  try clear c16
                  try clear c16b0
                  try clear c16b1
                  try clear c17
                  try clear c17b0
                  try clear c17b1
                  try clear c27
                  try clear c27b0
                  try clear c27b1
                  try clear c27b2
                  try clear c28
                  try clear c28b0
                  try clear c28b1
                  try clear c28b2
                  try clear c29
                  try clear c29b0
                  try clear c29b1
                  try clear c29b2
                  try clear c30
                  try clear c30b0
                  try clear c30b1
                  try clear c30b2
                  try clear c32
                  try clear c32b0
                  try clear c32b1
                  try clear c32b2
                  try clear c33
                  try clear c33b0
                  try clear c33b1
                  try clear c33b2
                  try clear c37
                  try clear c37b0
                  try clear c37b1
                  try clear c37b2
                  try clear c39
                  try clear c39b1
                  try clear c39b2
                  try clear c40
                  try clear c40b1
                  try clear c40b2
                  try clear hcz21_0
                  try clear hfz21_0
                  try clear hx336_0
                  try clear p336
                  try clear q336
                  obtain ⟨x11_4, x19_4, rfl, HA, HK4, HO_11, HO_15, HO_52, BK325, BK329, HB⟩ := hrel
                  cases gk with
                  | zero => exact absurd HA.out (by simp [hinterlandref02_Grow.l2])
                  | succ k4 =>
                   have H := HA.out
                   clear HA
                   simp only [hinterlandref02_Grow.l2] at H
                   by_cases c54 : x19_4 ≤ a2
                   ·rw [if_pos c54] at H
                    have c54b0 : decide (x19_4 ≤ a2) = true := decide_eq_true c54
                    clear c54
                    (try (have c54y0 := c54b0; simp only [hl52_2, hl15_3] at c54y0))
                    (try (have c54y1 := c54b1; simp only [hl52_2, hl15_3] at c54y1))
                    (try (have c54y2 := c54b2; simp only [hl52_2, hl15_3] at c54y2))
                    have H' := Aside0.mk H
                    clear H
                    go_wp2
                    go_loopg [20] k4 (fun kq v20 w' => ∃ (x11_5 : List Int) (x20_5 : Int), v20 = .int .i64 x20_5 ∧ Aside0 (hinterlandref02_Grow.l3 kq a1 a2 a3 x11_5 (rd x52_2 x54_2) (wrap64 ((wrap64 (Int.tdiv a1 (rd x52_2 x54_2))) + 2)) x15_3 x19_4 x20_5 x52_2 (y333.length : Int) x54_2 x330000_3 = some (r1, r2, r3, r4)) ∧ Aside0 (kq ≤ k4) ∧ Aside0 (Kd.R (Kd.int .i64) 3 w' w.heap.size (fun k_ => some k_ ≠ ((.slice Ao36 x15_3.length co36) : Value).ownBlock ∧ some k_ ≠ ((.slice (some ad336) x52_2.length co26) : Value).ownBlock) v331 x11_5) ∧ Aside0 (Kd.R (Kd.int .i64) 3 w' w.heap.size (fun k_ => some k_ ≠ (v331 : Value).ownBlock ∧ some k_ ≠ ((.slice (some ad336) x52_2.length co26) : Value).ownBlock) (.slice Ao36 x15_3.length co36) x15_3) ∧ Aside0 (Kd.R (Kd.int .i64) 3 w' w.heap.size (fun k_ => some k_ ≠ (v331 : Value).ownBlock ∧ some k_ ≠ ((.slice Ao36 x15_3.length co36) : Value).ownBlock) (.slice (some ad336) x52_2.length co26) x52_2) ∧ Aside0 (w'.heap[gb325]? = some (.cells #[.int .i64 0, .int .i64 0, (.slice none 0 0)] 24 (0, 0))) ∧ Aside0 (w'.heap[gb329]? = some (.cells #[.int .u64 x330000_3] 52 (0, 0))) ∧ Aside0 (Below w.heap.size w w'))
                    case atStart => exact ⟨(x11_4), (0), tS_, H', ⟨Nat.le_refl _⟩, ⟨by (try simp only [hl52_2]); (try simp only [hl15_3]); (with_reducible repeat (first | apply Kd.R_alloc | apply Kd.R_drewN | apply Kd.R_drew)); exact HO_11.out⟩, ⟨by (try simp only [hl52_2]); (try simp only [hl15_3]); (with_reducible repeat (first | apply Kd.R_alloc | apply Kd.R_drewN | apply Kd.R_drew)); exact HO_15.out⟩, ⟨by (try simp only [hl52_2]); (try simp only [hl15_3]); (with_reducible repeat (first | apply Kd.R_alloc | apply Kd.R_drewN | apply Kd.R_drew)); exact HO_52.out⟩, ⟨by (try simp only [hl52_2]); (try simp only [hl15_3]); (with_reducible repeat (first | refine blk_drewN ?_ _ | refine blk_drew ?_ | refine blk_alloc ?_ _)); exact BK325.out⟩, ⟨by (try simp only [hl52_2]); (try simp only [hl15_3]); (with_reducible repeat (first | refine blk_drewN ?_ _ | refine blk_drew ?_ | refine blk_alloc ?_ _)); exact BK329.out⟩, ⟨dL2_ HB GE325 GE329⟩⟩
                    case round =>
                     clear H'
                     try clear c11
                     try clear c12
                     try clear c16
                     try clear c16b0
                     try clear c16b1
                     try clear c17
                     try clear c17b0
                     try clear c17b1
                     try clear c27
                     try clear c27b0
                     try clear c27b1
                     try clear c27b2
                     try clear c28
                     try clear c28b0
                     try clear c28b1
                     try clear c28b2
                     try clear c29
                     try clear c29b0
                     try clear c29b1
                     try clear c29b2
                     try clear c30
                     try clear c30b0
                     try clear c30b1
                     try clear c30b2
                     try clear c32
                     try clear c32b0
                     try clear c32b1
                     try clear c32b2
                     try clear c33
                     try clear c33b0
                     try clear c33b1
                     try clear c33b2
                     try clear c37
                     try clear c37b0
                     try clear c37b1
                     try clear c37b2
                     try clear c39
                     try clear c39b1
                     try clear c39b2
                     try clear c40
                     try clear c40b1
                     try clear c40b2
                     try clear c54
                     try clear c54b0
                     try clear c54b1
                     try clear c54b2
                     try clear hcz21_0
                     try clear hfz21_0
                     try clear hx336_0
                     try clear p336
                     try clear q336
                     obtain ⟨x11_5, x20_5, rfl, HA, HK5, HO_11, HO_15, HO_52, BK325, BK329, HB⟩ := hrel
                     cases gk with
                     | zero => exact absurd HA.out (by simp [hinterlandref02_Grow.l3])
                     | succ k5 =>
                      have H := HA.out
                      clear HA
                      simp only [hinterlandref02_Grow.l3] at H
                      by_cases c55 : x20_5 ≤ a1
                      ·rw [if_pos c55] at H
                       have c55b0 : decide (x20_5 ≤ a1) = true := decide_eq_true c55
                       clear c55
                       (try (have c55y0 := c55b0; simp only [hl52_2, hl15_3] at c55y0))
                       (try (have c55y1 := c55b1; simp only [hl52_2, hl15_3] at c55y1))
                       (try (have c55y2 := c55b2; simp only [hl52_2, hl15_3] at c55y2))
                       by_cases c56 : (rd x52_2 x54_2) = 0
                       ·rw [if_pos c56] at H
                        exact absurd H (by simp)
                       ·rw [if_neg c56] at H
                        have c56b0 : ((rd x52_2 x54_2) == 0) = false := beq_eq_false_iff_ne.mpr c56
                        have c56b1 : ((rd x52_2 x54_2) != 0) = true := bne_iff_ne.mpr c56
                        (try (have c56y0 := c56b0; simp only [hl52_2, hl15_3] at c56y0))
                        (try (have c56y1 := c56b1; simp only [hl52_2, hl15_3] at c56y1))
                        (try (have c56y2 := c56b2; simp only [hl52_2, hl15_3] at c56y2))
                        obtain ⟨ji57, hji57⟩ : ∃ j_ : Int, (wrap64 ((wrap64 ((wrap64 (Int.tdiv x19_4 (rd x52_2 x54_2))) * (wrap64 ((wrap64 (Int.tdiv a1 (rd x52_2 x54_2))) + 2)))) + (wrap64 (Int.tdiv x20_5 (rd x52_2 x54_2))))) = j_ := ⟨_, rfl⟩
                        replace H : (if 0 ≤ (ji57) then (if (ji57) < (x15_3.length : Int) then (if 0 ≤ (wrap64 ((ji57) + 1)) then (if (wrap64 ((ji57) + 1)) < (x15_3.length : Int) then (if 0 ≤ (wrap64 ((ji57) + (wrap64 ((wrap64 (Int.tdiv a1 (rd x52_2 x54_2))) + 2)))) then (if (wrap64 ((ji57) + (wrap64 ((wrap64 (Int.tdiv a1 (rd x52_2 x54_2))) + 2)))) < (x15_3.length : Int) then (if 0 ≤ (wrap64 ((wrap64 ((ji57) + (wrap64 ((wrap64 (Int.tdiv a1 (rd x52_2 x54_2))) + 2)))) + 1)) then (if (wrap64 ((wrap64 ((ji57) + (wrap64 ((wrap64 (Int.tdiv a1 (rd x52_2 x54_2))) + 2)))) + 1)) < (x15_3.length : Int) then (if 0 ≤ (wrap64 ((wrap64 (x19_4 * (wrap64 (a1 + 1)))) + x20_5)) then (if (wrap64 ((wrap64 (x19_4 * (wrap64 (a1 + 1)))) + x20_5)) < (x11_5.length : Int) then (if (wrap64 ((rd x52_2 x54_2) * (rd x52_2 x54_2))) = 0 then (none) else (hinterlandref02_Grow.l3 k5 a1 a2 a3 (x11_5.set ((wrap64 ((wrap64 (x19_4 * (wrap64 (a1 + 1)))) + x20_5)) : Int).toNat (wrap64 ((rd x11_5 (wrap64 ((wrap64 (x19_4 * (wrap64 (a1 + 1)))) + x20_5))) + (wrap64 (Int.tdiv (wrap64 ((wrap64 ((wrap64 ((wrap64 ((rd x15_3 (ji57)) * (wrap64 ((rd x52_2 x54_2) - (Int.tmod x20_5 (rd x52_2 x54_2)))))) + (wrap64 ((rd x15_3 (wrap64 ((ji57) + 1))) * (Int.tmod x20_5 (rd x52_2 x54_2)))))) * (wrap64 ((rd x52_2 x54_2) - (Int.tmod x19_4 (rd x52_2 x54_2)))))) + (wrap64 ((wrap64 ((wrap64 ((rd x15_3 (wrap64 ((ji57) + (wrap64 ((wrap64 (Int.tdiv a1 (rd x52_2 x54_2))) + 2))))) * (wrap64 ((rd x52_2 x54_2) - (Int.tmod x20_5 (rd x52_2 x54_2)))))) + (wrap64 ((rd x15_3 (wrap64 ((wrap64 ((ji57) + (wrap64 ((wrap64 (Int.tdiv a1 (rd x52_2 x54_2))) + 2)))) + 1))) * (Int.tmod x20_5 (rd x52_2 x54_2)))))) * (Int.tmod x19_4 (rd x52_2 x54_2)))))) (wrap64 ((rd x52_2 x54_2) * (rd x52_2 x54_2)))))))) (rd x52_2 x54_2) (wrap64 ((wrap64 (Int.tdiv a1 (rd x52_2 x54_2))) + 2)) x15_3 x19_4 (wrap64 (x20_5 + 1)) x52_2 (y333.length : Int) x54_2 x330000_3)) else (none)) else (none)) else (none)) else (none)) else (none)) else (none)) else (none)) else (none)) else (none)) else (none)) = some (r1, r2, r3, r4) := by first | (rw [hji57] at H; exact H) | (simp only [hji57] at H ⊢; exact H)
                        have hji57w : (IntKind.i64.wrap ((wrap64 ((wrap64 (Int.tdiv x19_4 (rd x52_2 x54_2))) * (wrap64 ((wrap64 (Int.tdiv a1 (rd x52_2 x54_2))) + 2)))) + (wrap64 (Int.tdiv x20_5 (rd x52_2 x54_2))))) = ji57 := (i64_w _).trans hji57
                        by_cases c58 : 0 ≤ (ji57)
                        ·rw [if_pos c58] at H
                         have c58b0 : decide (0 ≤ (ji57)) = true := decide_eq_true c58
                         clear c58
                         (try (have c58y0 := c58b0; simp only [hl52_2, hl15_3] at c58y0))
                         (try (have c58y1 := c58b1; simp only [hl52_2, hl15_3] at c58y1))
                         (try (have c58y2 := c58b2; simp only [hl52_2, hl15_3] at c58y2))
                         by_cases c59 : (ji57) < (x15_3.length : Int)
                         ·rw [if_pos c59] at H
                          have c59b0 : decide ((ji57) < (x15_3.length : Int)) = true := decide_eq_true c59
                          clear c59
                          (try (have c59y0 := c59b0; simp only [hl52_2, hl15_3] at c59y0))
                          (try (have c59y1 := c59b1; simp only [hl52_2, hl15_3] at c59y1))
                          (try (have c59y2 := c59b2; simp only [hl52_2, hl15_3] at c59y2))
                          obtain ⟨ji60, hji60⟩ : ∃ j_ : Int, (wrap64 ((ji57) + 1)) = j_ := ⟨_, rfl⟩
                          replace H : (if 0 ≤ (ji60) then (if (ji60) < (x15_3.length : Int) then (if 0 ≤ (wrap64 ((ji57) + (wrap64 ((wrap64 (Int.tdiv a1 (rd x52_2 x54_2))) + 2)))) then (if (wrap64 ((ji57) + (wrap64 ((wrap64 (Int.tdiv a1 (rd x52_2 x54_2))) + 2)))) < (x15_3.length : Int) then (if 0 ≤ (wrap64 ((wrap64 ((ji57) + (wrap64 ((wrap64 (Int.tdiv a1 (rd x52_2 x54_2))) + 2)))) + 1)) then (if (wrap64 ((wrap64 ((ji57) + (wrap64 ((wrap64 (Int.tdiv a1 (rd x52_2 x54_2))) + 2)))) + 1)) < (x15_3.length : Int) then (if 0 ≤ (wrap64 ((wrap64 (x19_4 * (wrap64 (a1 + 1)))) + x20_5)) then (if (wrap64 ((wrap64 (x19_4 * (wrap64 (a1 + 1)))) + x20_5)) < (x11_5.length : Int) then (if (wrap64 ((rd x52_2 x54_2) * (rd x52_2 x54_2))) = 0 then (none) else (hinterlandref02_Grow.l3 k5 a1 a2 a3 (x11_5.set ((wrap64 ((wrap64 (x19_4 * (wrap64 (a1 + 1)))) + x20_5)) : Int).toNat (wrap64 ((rd x11_5 (wrap64 ((wrap64 (x19_4 * (wrap64 (a1 + 1)))) + x20_5))) + (wrap64 (Int.tdiv (wrap64 ((wrap64 ((wrap64 ((wrap64 ((rd x15_3 (ji57)) * (wrap64 ((rd x52_2 x54_2) - (Int.tmod x20_5 (rd x52_2 x54_2)))))) + (wrap64 ((rd x15_3 (ji60)) * (Int.tmod x20_5 (rd x52_2 x54_2)))))) * (wrap64 ((rd x52_2 x54_2) - (Int.tmod x19_4 (rd x52_2 x54_2)))))) + (wrap64 ((wrap64 ((wrap64 ((rd x15_3 (wrap64 ((ji57) + (wrap64 ((wrap64 (Int.tdiv a1 (rd x52_2 x54_2))) + 2))))) * (wrap64 ((rd x52_2 x54_2) - (Int.tmod x20_5 (rd x52_2 x54_2)))))) + (wrap64 ((rd x15_3 (wrap64 ((wrap64 ((ji57) + (wrap64 ((wrap64 (Int.tdiv a1 (rd x52_2 x54_2))) + 2)))) + 1))) * (Int.tmod x20_5 (rd x52_2 x54_2)))))) * (Int.tmod x19_4 (rd x52_2 x54_2)))))) (wrap64 ((rd x52_2 x54_2) * (rd x52_2 x54_2)))))))) (rd x52_2 x54_2) (wrap64 ((wrap64 (Int.tdiv a1 (rd x52_2 x54_2))) + 2)) x15_3 x19_4 (wrap64 (x20_5 + 1)) x52_2 (y333.length : Int) x54_2 x330000_3)) else (none)) else (none)) else (none)) else (none)) else (none)) else (none)) else (none)) else (none)) = some (r1, r2, r3, r4) := by first | (rw [hji60] at H; exact H) | (simp only [hji60] at H ⊢; exact H)
                          have hji60w : (IntKind.i64.wrap ((ji57) + 1)) = ji60 := (i64_w _).trans hji60
                          by_cases c61 : 0 ≤ (ji60)
                          ·rw [if_pos c61] at H
                           have c61b0 : decide (0 ≤ (ji60)) = true := decide_eq_true c61
                           clear c61
                           (try (have c61y0 := c61b0; simp only [hl52_2, hl15_3] at c61y0))
                           (try (have c61y1 := c61b1; simp only [hl52_2, hl15_3] at c61y1))
                           (try (have c61y2 := c61b2; simp only [hl52_2, hl15_3] at c61y2))
                           by_cases c62 : (ji60) < (x15_3.length : Int)
                           ·rw [if_pos c62] at H
                            have c62b0 : decide ((ji60) < (x15_3.length : Int)) = true := decide_eq_true c62
                            clear c62
                            (try (have c62y0 := c62b0; simp only [hl52_2, hl15_3] at c62y0))
                            (try (have c62y1 := c62b1; simp only [hl52_2, hl15_3] at c62y1))
                            (try (have c62y2 := c62b2; simp only [hl52_2, hl15_3] at c62y2))
                            obtain ⟨ji63, hji63⟩ : ∃ j_ : Int, (wrap64 ((ji57) + (wrap64 ((wrap64 (Int.tdiv a1 (rd x52_2 x54_2))) + 2)))) = j_ := ⟨_, rfl⟩
                            replace H : (if 0 ≤ (ji63) then (if (ji63) < (x15_3.length : Int) then (if 0 ≤ (wrap64 ((ji63) + 1)) then (if (wrap64 ((ji63) + 1)) < (x15_3.length : Int) then (if 0 ≤ (wrap64 ((wrap64 (x19_4 * (wrap64 (a1 + 1)))) + x20_5)) then (if (wrap64 ((wrap64 (x19_4 * (wrap64 (a1 + 1)))) + x20_5)) < (x11_5.length : Int) then (if (wrap64 ((rd x52_2 x54_2) * (rd x52_2 x54_2))) = 0 then (none) else (hinterlandref02_Grow.l3 k5 a1 a2 a3 (x11_5.set ((wrap64 ((wrap64 (x19_4 * (wrap64 (a1 + 1)))) + x20_5)) : Int).toNat (wrap64 ((rd x11_5 (wrap64 ((wrap64 (x19_4 * (wrap64 (a1 + 1)))) + x20_5))) + (wrap64 (Int.tdiv (wrap64 ((wrap64 ((wrap64 ((wrap64 ((rd x15_3 (ji57)) * (wrap64 ((rd x52_2 x54_2) - (Int.tmod x20_5 (rd x52_2 x54_2)))))) + (wrap64 ((rd x15_3 (ji60)) * (Int.tmod x20_5 (rd x52_2 x54_2)))))) * (wrap64 ((rd x52_2 x54_2) - (Int.tmod x19_4 (rd x52_2 x54_2)))))) + (wrap64 ((wrap64 ((wrap64 ((rd x15_3 (ji63)) * (wrap64 ((rd x52_2 x54_2) - (Int.tmod x20_5 (rd x52_2 x54_2)))))) + (wrap64 ((rd x15_3 (wrap64 ((ji63) + 1))) * (Int.tmod x20_5 (rd x52_2 x54_2)))))) * (Int.tmod x19_4 (rd x52_2 x54_2)))))) (wrap64 ((rd x52_2 x54_2) * (rd x52_2 x54_2)))))))) (rd x52_2 x54_2) (wrap64 ((wrap64 (Int.tdiv a1 (rd x52_2 x54_2))) + 2)) x15_3 x19_4 (wrap64 (x20_5 + 1)) x52_2 (y333.length : Int) x54_2 x330000_3)) else (none)) else (none)) else (none)) else (none)) else (none)) else (none)) = some (r1, r2, r3, r4) := by first | (rw [hji63] at H; exact H) | (simp only [hji63] at H ⊢; exact H)
                            have hji63w : (IntKind.i64.wrap ((ji57) + (wrap64 ((wrap64 (Int.tdiv a1 (rd x52_2 x54_2))) + 2)))) = ji63 := (i64_w _).trans hji63
                            by_cases c64 : 0 ≤ (ji63)
                            ·rw [if_pos c64] at H
                             have c64b0 : decide (0 ≤ (ji63)) = true := decide_eq_true c64
                             clear c64
                             (try (have c64y0 := c64b0; simp only [hl52_2, hl15_3] at c64y0))
                             (try (have c64y1 := c64b1; simp only [hl52_2, hl15_3] at c64y1))
                             (try (have c64y2 := c64b2; simp only [hl52_2, hl15_3] at c64y2))
                             by_cases c65 : (ji63) < (x15_3.length : Int)
                             ·rw [if_pos c65] at H
                              have c65b0 : decide ((ji63) < (x15_3.length : Int)) = true := decide_eq_true c65
                              clear c65
                              (try (have c65y0 := c65b0; simp only [hl52_2, hl15_3] at c65y0))
                              (try (have c65y1 := c65b1; simp only [hl52_2, hl15_3] at c65y1))
                              (try (have c65y2 := c65b2; simp only [hl52_2, hl15_3] at c65y2))
                              obtain ⟨ji66, hji66⟩ : ∃ j_ : Int, (wrap64 ((ji63) + 1)) = j_ := ⟨_, rfl⟩
                              replace H : (if 0 ≤ (ji66) then (if (ji66) < (x15_3.length : Int) then (if 0 ≤ (wrap64 ((wrap64 (x19_4 * (wrap64 (a1 + 1)))) + x20_5)) then (if (wrap64 ((wrap64 (x19_4 * (wrap64 (a1 + 1)))) + x20_5)) < (x11_5.length : Int) then (if (wrap64 ((rd x52_2 x54_2) * (rd x52_2 x54_2))) = 0 then (none) else (hinterlandref02_Grow.l3 k5 a1 a2 a3 (x11_5.set ((wrap64 ((wrap64 (x19_4 * (wrap64 (a1 + 1)))) + x20_5)) : Int).toNat (wrap64 ((rd x11_5 (wrap64 ((wrap64 (x19_4 * (wrap64 (a1 + 1)))) + x20_5))) + (wrap64 (Int.tdiv (wrap64 ((wrap64 ((wrap64 ((wrap64 ((rd x15_3 (ji57)) * (wrap64 ((rd x52_2 x54_2) - (Int.tmod x20_5 (rd x52_2 x54_2)))))) + (wrap64 ((rd x15_3 (ji60)) * (Int.tmod x20_5 (rd x52_2 x54_2)))))) * (wrap64 ((rd x52_2 x54_2) - (Int.tmod x19_4 (rd x52_2 x54_2)))))) + (wrap64 ((wrap64 ((wrap64 ((rd x15_3 (ji63)) * (wrap64 ((rd x52_2 x54_2) - (Int.tmod x20_5 (rd x52_2 x54_2)))))) + (wrap64 ((rd x15_3 (ji66)) * (Int.tmod x20_5 (rd x52_2 x54_2)))))) * (Int.tmod x19_4 (rd x52_2 x54_2)))))) (wrap64 ((rd x52_2 x54_2) * (rd x52_2 x54_2)))))))) (rd x52_2 x54_2) (wrap64 ((wrap64 (Int.tdiv a1 (rd x52_2 x54_2))) + 2)) x15_3 x19_4 (wrap64 (x20_5 + 1)) x52_2 (y333.length : Int) x54_2 x330000_3)) else (none)) else (none)) else (none)) else (none)) = some (r1, r2, r3, r4) := by first | (rw [hji66] at H; exact H) | (simp only [hji66] at H ⊢; exact H)
                              have hji66w : (IntKind.i64.wrap ((ji63) + 1)) = ji66 := (i64_w _).trans hji66
                              by_cases c67 : 0 ≤ (ji66)
                              ·rw [if_pos c67] at H
                               have c67b0 : decide (0 ≤ (ji66)) = true := decide_eq_true c67
                               clear c67
                               (try (have c67y0 := c67b0; simp only [hl52_2, hl15_3] at c67y0))
                               (try (have c67y1 := c67b1; simp only [hl52_2, hl15_3] at c67y1))
                               (try (have c67y2 := c67b2; simp only [hl52_2, hl15_3] at c67y2))
                               by_cases c68 : (ji66) < (x15_3.length : Int)
                               ·rw [if_pos c68] at H
                                have c68b0 : decide ((ji66) < (x15_3.length : Int)) = true := decide_eq_true c68
                                clear c68
                                (try (have c68y0 := c68b0; simp only [hl52_2, hl15_3] at c68y0))
                                (try (have c68y1 := c68b1; simp only [hl52_2, hl15_3] at c68y1))
                                (try (have c68y2 := c68b2; simp only [hl52_2, hl15_3] at c68y2))
                                obtain ⟨ji69, hji69⟩ : ∃ j_ : Int, (wrap64 ((wrap64 (x19_4 * (wrap64 (a1 + 1)))) + x20_5)) = j_ := ⟨_, rfl⟩
                                replace H : (if 0 ≤ (ji69) then (if (ji69) < (x11_5.length : Int) then (if (wrap64 ((rd x52_2 x54_2) * (rd x52_2 x54_2))) = 0 then (none) else (hinterlandref02_Grow.l3 k5 a1 a2 a3 (x11_5.set ((ji69) : Int).toNat (wrap64 ((rd x11_5 (ji69)) + (wrap64 (Int.tdiv (wrap64 ((wrap64 ((wrap64 ((wrap64 ((rd x15_3 (ji57)) * (wrap64 ((rd x52_2 x54_2) - (Int.tmod x20_5 (rd x52_2 x54_2)))))) + (wrap64 ((rd x15_3 (ji60)) * (Int.tmod x20_5 (rd x52_2 x54_2)))))) * (wrap64 ((rd x52_2 x54_2) - (Int.tmod x19_4 (rd x52_2 x54_2)))))) + (wrap64 ((wrap64 ((wrap64 ((rd x15_3 (ji63)) * (wrap64 ((rd x52_2 x54_2) - (Int.tmod x20_5 (rd x52_2 x54_2)))))) + (wrap64 ((rd x15_3 (ji66)) * (Int.tmod x20_5 (rd x52_2 x54_2)))))) * (Int.tmod x19_4 (rd x52_2 x54_2)))))) (wrap64 ((rd x52_2 x54_2) * (rd x52_2 x54_2)))))))) (rd x52_2 x54_2) (wrap64 ((wrap64 (Int.tdiv a1 (rd x52_2 x54_2))) + 2)) x15_3 x19_4 (wrap64 (x20_5 + 1)) x52_2 (y333.length : Int) x54_2 x330000_3)) else (none)) else (none)) = some (r1, r2, r3, r4) := by first | (rw [hji69] at H; exact H) | (simp only [hji69] at H ⊢; exact H)
                                have hji69w : (IntKind.i64.wrap ((wrap64 (x19_4 * (wrap64 (a1 + 1)))) + x20_5)) = ji69 := (i64_w _).trans hji69
                                by_cases c70 : 0 ≤ (ji69)
                                ·rw [if_pos c70] at H
                                 have c70b0 : decide (0 ≤ (ji69)) = true := decide_eq_true c70
                                 clear c70
                                 (try (have c70y0 := c70b0; simp only [hl52_2, hl15_3] at c70y0))
                                 (try (have c70y1 := c70b1; simp only [hl52_2, hl15_3] at c70y1))
                                 (try (have c70y2 := c70b2; simp only [hl52_2, hl15_3] at c70y2))
                                 by_cases c71 : (ji69) < (x11_5.length : Int)
                                 ·rw [if_pos c71] at H
                                  have c71b0 : decide ((ji69) < (x11_5.length : Int)) = true := decide_eq_true c71
                                  clear c71
                                  (try (have c71y0 := c71b0; simp only [hl52_2, hl15_3] at c71y0))
                                  (try (have c71y1 := c71b1; simp only [hl52_2, hl15_3] at c71y1))
                                  (try (have c71y2 := c71b2; simp only [hl52_2, hl15_3] at c71y2))
                                  by_cases c72 : (wrap64 ((rd x52_2 x54_2) * (rd x52_2 x54_2))) = 0
                                  ·rw [if_pos c72] at H
                                   exact absurd H (by simp)
                                  ·rw [if_neg c72] at H
                                   have c72b0 : ((wrap64 ((rd x52_2 x54_2) * (rd x52_2 x54_2))) == 0) = false := beq_eq_false_iff_ne.mpr c72
                                   have c72b1 : ((wrap64 ((rd x52_2 x54_2) * (rd x52_2 x54_2))) != 0) = true := bne_iff_ne.mpr c72
                                   (try (have c72y0 := c72b0; simp only [hl52_2, hl15_3] at c72y0))
                                   (try (have c72y1 := c72b1; simp only [hl52_2, hl15_3] at c72y1))
                                   (try (have c72y2 := c72b2; simp only [hl52_2, hl15_3] at c72y2))
                                   obtain ⟨y349, hy349⟩ : ∃ y_ : List Int, y_ = (x11_5.set ((ji69) : Int).toNat (wrap64 ((rd x11_5 (ji69)) + (wrap64 (Int.tdiv (wrap64 ((wrap64 ((wrap64 ((wrap64 ((rd x15_3 (ji57)) * (wrap64 ((rd x52_2 x54_2) - (Int.tmod x20_5 (rd x52_2 x54_2)))))) + (wrap64 ((rd x15_3 (ji60)) * (Int.tmod x20_5 (rd x52_2 x54_2)))))) * (wrap64 ((rd x52_2 x54_2) - (Int.tmod x19_4 (rd x52_2 x54_2)))))) + (wrap64 ((wrap64 ((wrap64 ((rd x15_3 (ji63)) * (wrap64 ((rd x52_2 x54_2) - (Int.tmod x20_5 (rd x52_2 x54_2)))))) + (wrap64 ((rd x15_3 (ji66)) * (Int.tmod x20_5 (rd x52_2 x54_2)))))) * (Int.tmod x19_4 (rd x52_2 x54_2)))))) (wrap64 ((rd x52_2 x54_2) * (rd x52_2 x54_2)))))))) := ⟨_, rfl⟩
                                   replace H : (hinterlandref02_Grow.l3 k5 a1 a2 a3 y349 (rd x52_2 x54_2) (wrap64 ((wrap64 (Int.tdiv a1 (rd x52_2 x54_2))) + 2)) x15_3 x19_4 (wrap64 (x20_5 + 1)) x52_2 (y333.length : Int) x54_2 x330000_3) = some (r1, r2, r3, r4) := by first | (rw [hy349]; with_reducible exact H) | (have H2_ := (Option.bind_some _ _).symm.trans H; rw [hy349]; with_reducible exact H2_) | (have H2_ := (Option.bind_some _ _).symm.trans H; with_reducible exact H2_) | with_reducible exact H | (rw [hy349]; exact H) | exact H
                                   have Ny349 := Aside0.mk hy349
                                   clear hy349
                                   have H' := Aside0.mk H
                                   clear H
                                   try go_wp2
                                   replace HO_11 := Aside0.mk (Kd.R_drew HO_11.out)
                                   replace HO_15 := Aside0.mk (Kd.R_drew HO_15.out)
                                   replace HO_52 := Aside0.mk (Kd.R_drew HO_52.out)
                                   replace BK325 := Aside0.mk (blk_drew BK325.out)
                                   replace BK329 := Aside0.mk (blk_drew BK329.out)
                                   replace HB := Aside0.mk (below_drew1 HB.out)
                                   refine start_ (n := 10) (S := fun w' => True) (ds := []) #[false, false, false, false, false, false, false, false, false, false] (by kernel_rfl) rfl rfl trivial (fun hHeld => ?_); refine with_tabW hinterlandref02_Grow.tab23 hinterlandref02_Grow.bits23 (fun HT_ HW_ => ?_)
                                   generalize wr.drew = w74 at HO_11 HO_15 HO_52 BK325 BK329 HB hHeld ⊢
                                   refine pure_ (i := 0) (N := some 99) (v := ?_) (a' := ?_) (bA 1 10) rfl rfl (any_of HT_.out (by kernel_rfl)) (fun _ _ _ h => h) (Or.inl ⟨by rfl, ?_⟩) ?_ ?_; rotate_left; (intro w'; go_simp; with_reducible rfl); rotate_left; (simp only [Act.put, sI_, s0_, sS_, i64_w, i32_w]; rfl)
                                   refine pure_ (i := 1) (N := some 100) (v := ?_) (a' := ?_) (bA 2 10) rfl rfl (any_of HT_.out (by kernel_rfl)) (fun _ _ _ h => h) (Or.inl ⟨by rfl, ?_⟩) ?_ ?_; rotate_left; (intro w'; go_simp; with_reducible rfl); rotate_left; (simp only [Act.put, sI_, s0_, sS_, i64_w, i32_w]; rfl)
                                   refine pure_ (i := 2) (N := some 101) (v := ?_) (a' := ?_) (bA 3 10) rfl rfl (any_of HT_.out (by kernel_rfl)) (fun _ _ _ h => h) (Or.inl ⟨by rfl, ?_⟩) ?_ ?_; rotate_left; (intro w'; go_simp; with_reducible rfl); rotate_left; (simp only [Act.put, sI_, s0_, sS_, i64_w, i32_w]; rfl)
                                   refine pure_ (i := 3) (N := some 102) (v := ?_) (a' := ?_) (bA 4 10) rfl rfl (any_of HT_.out (by kernel_rfl)) (fun _ _ _ h => h) (Or.inl ⟨by rfl, ?_⟩) ?_ ?_; rotate_left; (intro w'; go_simp; with_reducible rfl); rotate_left; (simp only [Act.put, sI_, s0_, sS_, i64_w, i32_w]; rfl)
                                   refine pure_ (i := 4) (N := some 103) (v := ?_) (a' := ?_) (bA 5 10) rfl rfl (any_of HT_.out (by kernel_rfl)) (fun _ _ _ h => h) (Or.inl ⟨by rfl, ?_⟩) ?_ ?_; rotate_left; (intro w'; go_simp; with_reducible rfl); rotate_left; (simp only [Act.put, sI_, s0_, sS_, i64_w, i32_w]; rfl)
                                   refine pure_ (i := 5) (N := some 104) (v := ?_) (a' := ?_) (bA 6 10) rfl rfl (any_of HT_.out (by kernel_rfl)) (fun _ _ _ h => h) (Or.inl ⟨by rfl, ?_⟩) ?_ ?_; rotate_left; (intro w'; go_simp; with_reducible rfl); rotate_left; (simp only [Act.put, sI_, s0_, sS_, i64_w, i32_w]; rfl)
                                   refine pure_ (i := 6) (N := some 105) (v := ?_) (a' := ?_) (bA 7 10) rfl rfl (any_of HT_.out (by kernel_rfl)) (fun _ _ _ h => h) (Or.inl ⟨by rfl, ?_⟩) ?_ ?_; rotate_left; (intro w'; go_simp; with_reducible rfl); rotate_left; (simp only [Act.put, sI_, s0_, sS_, i64_w, i32_w]; rfl)
                                   refine pure_ (i := 7) (N := some 106) (v := ?_) (a' := ?_) (bA 8 10) rfl rfl (any_of HT_.out (by kernel_rfl)) (fun _ _ _ h => h) (Or.inl ⟨by rfl, ?_⟩) ?_ ?_; rotate_left; (intro w'; go_simp; with_reducible rfl); rotate_left; (simp only [Act.put, sI_, s0_, sS_, i64_w, i32_w]; rfl)
                                   refine pure_ (i := 8) (N := some 107) (v := ?_) (a' := ?_) (bA 9 10) rfl rfl (any_of HT_.out (by kernel_rfl)) (fun _ _ _ h => h) (Or.inl ⟨by rfl, ?_⟩) ?_ ?_; rotate_left; (intro w'; go_simp; with_reducible rfl); rotate_left; (simp only [Act.put, sI_, s0_, sS_, i64_w, i32_w]; rfl)
                                   refine pure_ (i := 9) (N := some 21) (v := ?_) (a' := ?_) (bA 10 10) rfl rfl (any_of HT_.out (by kernel_rfl)) (fun _ _ _ h => h) (Or.inl ⟨by rfl, ?_⟩) ?_ ?_; rotate_left; (intro w'; go_simp; with_reducible rfl); rotate_left; (simp only [Act.put, sI_, s0_, sS_, i64_w, i32_w]; rfl)
                                   refine done_ (done_of HT_.out (by kernel_rfl)) ?_
                                   try go_wp2
                                   replace HO_11 := Aside0.mk (Kd.R_drew HO_11.out)
                                   replace HO_15 := Aside0.mk (Kd.R_drew HO_15.out)
                                   replace HO_52 := Aside0.mk (Kd.R_drew HO_52.out)
                                   replace BK325 := Aside0.mk (blk_drew BK325.out)
                                   replace BK329 := Aside0.mk (blk_drew BK329.out)
                                   replace HB := Aside0.mk (below_drew1 HB.out)
                                   refine start_ (n := 8) (S := fun w' => True) (ds := []) #[false, false, false, false, false, false, false, false] (by kernel_rfl) rfl rfl trivial (fun hHeld => ?_); refine with_tabW hinterlandref02_Grow.tab24 hinterlandref02_Grow.bits24 (fun HT_ HW_ => ?_)
                                   generalize w74.drew = w75 at HO_11 HO_15 HO_52 BK325 BK329 HB hHeld ⊢
                                   refine pure_ (i := 0) (N := some 108) (v := ?_) (a' := ?_) (bA 1 8) rfl rfl (any_of HT_.out (by kernel_rfl)) (fun _ _ _ h => h) (Or.inl ⟨by rfl, ?_⟩) ?_ ?_; rotate_left; (intro w'; go_simp; with_reducible rfl); rotate_left; (simp only [Act.put, sI_, s0_, sS_, i64_w, i32_w]; rfl)
                                   refine pure_ (i := 1) (N := some 109) (v := ?_) (a' := ?_) (bA 2 8) rfl rfl (any_of HT_.out (by kernel_rfl)) (fun _ _ _ h => h) (Or.inl ⟨by rfl, ?_⟩) ?_ ?_; rotate_left; (intro w'; go_simp; with_reducible rfl); rotate_left; (simp only [Act.put, sI_, s0_, sS_, i64_w, i32_w]; rfl)
                                   refine pure_ (i := 2) (N := some 110) (v := ?_) (a' := ?_) (bA 3 8) rfl rfl (any_of HT_.out (by kernel_rfl)) (fun _ _ _ h => h) (Or.inl ⟨by rfl, ?_⟩) ?_ ?_; rotate_left; (intro w'; go_simp; with_reducible rfl); rotate_left; (simp only [Act.put, sI_, s0_, sS_, i64_w, i32_w]; rfl)
                                   refine pure_ (i := 3) (N := some 111) (v := ?_) (a' := ?_) (bA 4 8) rfl rfl (any_of HT_.out (by kernel_rfl)) (fun _ _ _ h => h) (Or.inl ⟨by rfl, ?_⟩) ?_ ?_; rotate_left; (intro w'; go_simp; with_reducible rfl); rotate_left; (simp only [Act.put, sI_, s0_, sS_, i64_w, i32_w]; rfl)
                                   refine pure_ (i := 4) (N := some 112) (v := ?_) (a' := ?_) (bA 5 8) rfl rfl (any_of HT_.out (by kernel_rfl)) (fun _ _ _ h => h) (Or.inl ⟨by rfl, ?_⟩) ?_ ?_; rotate_left; (intro w'; go_simp; with_reducible rfl); rotate_left; (simp only [Act.put, sI_, s0_, sS_, i64_w, i32_w]; rfl)
                                   refine pure_ (i := 5) (N := some 113) (v := ?_) (a' := ?_) (bA 6 8) rfl rfl (any_of HT_.out (by kernel_rfl)) (fun _ _ _ h => h) (Or.inl ⟨by rfl, ?_⟩) ?_ ?_; rotate_left; (intro w'; go_simp; with_reducible rfl); rotate_left; (simp only [Act.put, sI_, s0_, sS_, i64_w, i32_w]; rfl)
                                   refine pure_ (i := 6) (N := some 22) (v := ?_) (a' := ?_) (bA 7 8) rfl rfl (any_of HT_.out (by kernel_rfl)) (fun _ _ _ h => h) (Or.inl ⟨by rfl, ?_⟩) ?_ ?_; rotate_left; (intro w'; go_simp; with_reducible rfl); rotate_left; (simp only [Act.put, sI_, s0_, sS_, i64_w, i32_w]; rfl)
                                   refine pure_ (i := 7) (N := some 23) (v := ?_) (a' := ?_) (bA 8 8) rfl rfl (any_of HT_.out (by kernel_rfl)) (fun _ _ _ h => h) (Or.inl ⟨by rfl, ?_⟩) ?_ ?_; rotate_left; (intro w'; go_simp; with_reducible rfl); rotate_left; (simp only [Act.put, sI_, s0_, sS_, i64_w, i32_w]; rfl)
                                   refine done_ (done_of HT_.out (by kernel_rfl)) ?_
                                   try go_wp2
                                   replace HO_11 := Aside0.mk (Kd.R_drew HO_11.out)
                                   replace HO_15 := Aside0.mk (Kd.R_drew HO_15.out)
                                   replace HO_52 := Aside0.mk (Kd.R_drew HO_52.out)
                                   replace BK325 := Aside0.mk (blk_drew BK325.out)
                                   replace BK329 := Aside0.mk (blk_drew BK329.out)
                                   replace HB := Aside0.mk (below_drew1 HB.out)
                                   have p344 : 0 ≤ ((ji57) : Int) := of_decide_eq_true tW_
                                   have q344 : (ji57) < (x15_3.length : Int) := of_decide_eq_true tW_
                                   obtain ⟨ad344, e344, hx344_0⟩ := Kd.at_int (Kd.R_reads' HO_15.out).2.2 (ji57) p344 q344
                                   cases e344
                                   replace p344 := eq_true p344
                                   replace q344 := eq_true q344
                                   have p345 : 0 ≤ ((ji60) : Int) := of_decide_eq_true tW_
                                   have q345 : (ji60) < (x15_3.length : Int) := of_decide_eq_true tW_
                                   obtain ⟨ad345, e345, hx345_0⟩ := Kd.at_int (Kd.R_reads' HO_15.out).2.2 (ji60) p345 q345
                                   obtain rfl : ad344 = ad345 := (by injection e345)
                                   replace p345 := eq_true p345
                                   replace q345 := eq_true q345
                                   refine start_ (n := 17) (S := fun w' => w'.cell? (ad344.add ((ji57)).toNat) = some (.int .i64 (rd x15_3 (ji57))) ∧ w'.cell? (ad344.add ((ji60)).toNat) = some (.int .i64 (rd x15_3 (ji60)))) (ds := []) #[false, false, false, false, false, false, false, false, false, false, false, false, false, false, false, false, false] (by kernel_rfl) rfl rfl ⟨hx344_0, hx345_0⟩ (fun hHeld => ?_); refine with_tabW hinterlandref02_Grow.tab25 hinterlandref02_Grow.bits25 (fun HT_ HW_ => ?_)
                                   generalize w75.drew = w76 at HO_11 HO_15 HO_52 BK325 BK329 HB hx344_0 hx345_0 hHeld ⊢
                                   refine pure_ (i := 0) (N := some 114) (v := ?_) (a' := ?_) (bA 1 17) rfl rfl (any_of HT_.out (by kernel_rfl)) (fun _ _ _ h => h) (Or.inl ⟨by rfl, ?_⟩) ?_ ?_; rotate_left; (intro w'; go_simp; with_reducible rfl); rotate_left; (simp only [Act.put, sI_, s0_, sS_, i64_w, i32_w]; rfl)
                                   refine pure_ (i := 1) (N := some 115) (v := ?_) (a' := ?_) (bA 2 17) rfl rfl (any_of HT_.out (by kernel_rfl)) (fun _ _ _ h => h) (Or.inl ⟨by rfl, ?_⟩) ?_ ?_; rotate_left; (intro w'; go_simp; with_reducible rfl); rotate_left; (simp only [Act.put, sI_, s0_, sS_, i64_w, i32_w]; rfl)
                                   refine pure_ (i := 2) (N := some 116) (v := ?_) (a' := ?_) (bA 3 17) rfl rfl (any_of HT_.out (by kernel_rfl)) (fun _ _ _ h => h) (Or.inl ⟨by rfl, ?_⟩) ?_ ?_; rotate_left; (intro w'; go_simp; with_reducible rfl); rotate_left; (simp only [Act.put, sI_, s0_, sS_, i64_w, i32_w]; rfl)
                                   refine pure_ (i := 4) (N := some 118) (v := ?_) (a' := ?_) #[true, true, true, false, true, false, false, false, false, false, false, false, false, false, false, false, false] rfl rfl (any_of HT_.out (by kernel_rfl)) (fun _ _ _ h => h) (Or.inl ⟨by rfl, ?_⟩) ?_ ?_; rotate_left; (intro w'; go_simp; with_reducible rfl); rotate_left; (simp only [Act.put, sI_, s0_, sS_, i64_w, i32_w]; rfl)
                                   refine pure_ (i := 5) (N := some 119) (v := ?_) (a' := ?_) #[true, true, true, false, true, true, false, false, false, false, false, false, false, false, false, false, false] rfl rfl (any_of HT_.out (by kernel_rfl)) (fun _ _ _ h => h) (Or.inl ⟨by rfl, ?_⟩) ?_ ?_; rotate_left; (intro w'; go_simp; with_reducible rfl); rotate_left; (simp only [Act.put, sI_, s0_, sS_, i64_w, i32_w]; rfl)
                                   refine pure_ (i := 6) (N := some 120) (v := ?_) (a' := ?_) #[true, true, true, false, true, true, true, false, false, false, false, false, false, false, false, false, false] rfl rfl (any_of HT_.out (by kernel_rfl)) (fun _ _ _ h => h) (Or.inl ⟨by rfl, ?_⟩) ?_ ?_; rotate_left; (intro w'; go_simp; with_reducible rfl); rotate_left; (simp only [Act.put, sI_, s0_, sS_, i64_w, i32_w]; rfl)
                                   refine pure_ (i := 8) (N := some 122) (v := ?_) (a' := ?_) #[true, true, true, false, true, true, true, false, true, false, false, false, false, false, false, false, false] rfl rfl (any_of HT_.out (by kernel_rfl)) (fun _ _ _ h => h) (Or.inl ⟨by rfl, ?_⟩) ?_ ?_; rotate_left; (intro w'; go_simp; with_reducible rfl); rotate_left; (simp only [Act.put, sI_, s0_, sS_, i64_w, i32_w]; rfl)
                                   refine pure_ (i := 9) (N := some 123) (v := ?_) (a' := ?_) #[true, true, true, false, true, true, true, false, true, true, false, false, false, false, false, false, false] rfl rfl (any_of HT_.out (by kernel_rfl)) (fun _ _ _ h => h) (Or.inl ⟨by rfl, ?_⟩) ?_ ?_; rotate_left; (intro w'; go_simp; with_reducible rfl); rotate_left; (simp only [Act.put, sI_, s0_, sS_, i64_w, i32_w]; rfl)
                                   refine pure_ (i := 10) (N := some 124) (v := ?_) (a' := ?_) #[true, true, true, false, true, true, true, false, true, true, true, false, false, false, false, false, false] rfl rfl (any_of HT_.out (by kernel_rfl)) (fun _ _ _ h => h) (Or.inl ⟨by rfl, ?_⟩) ?_ ?_; rotate_left; (intro w'; go_simp; with_reducible rfl); rotate_left; (simp only [Act.put, sI_, s0_, sS_, i64_w, i32_w]; rfl)
                                   refine pure_ (i := 11) (N := some 125) (v := ?_) (a' := ?_) #[true, true, true, false, true, true, true, false, true, true, true, true, false, false, false, false, false] rfl rfl (any_of HT_.out (by kernel_rfl)) (fun _ _ _ h => h) (Or.inl ⟨by rfl, ?_⟩) ?_ ?_; rotate_left; (intro w'; go_simp; with_reducible rfl); rotate_left; (simp only [Act.put, sI_, s0_, sS_, i64_w, i32_w]; rfl)
                                   refine pure_ (i := 13) (N := some 127) (v := ?_) (a' := ?_) #[true, true, true, false, true, true, true, false, true, true, true, true, false, true, false, false, false] rfl rfl (any_of HT_.out (by kernel_rfl)) (fun _ _ _ h => h) (Or.inl ⟨by rfl, ?_⟩) ?_ ?_; rotate_left; (intro w'; go_simp; with_reducible rfl); rotate_left; (simp only [Act.put, sI_, s0_, sS_, i64_w, i32_w]; rfl)
                                   refine take_ (i := 3) (N := some 117) (v := ?_) (a' := ?_) #[true, true, true, true, true, true, true, false, true, true, true, true, false, true, false, false, false] rfl rfl (take_ofW HT_.out HW_.out (by kernel_rfl)) (fun _ _ _ h => h) (Or.inl ⟨by rfl, ?_⟩) hHeld ?_ ?_; rotate_left; (rintro w' ⟨s0, s1⟩; go_simp; with_reducible rfl); rotate_left; (simp only [Act.put, sI_, s0_, sS_, i64_w, i32_w]; rfl)
                                   refine pure_ (i := 7) (N := some 121) (v := ?_) (a' := ?_) #[true, true, true, true, true, true, true, true, true, true, true, true, false, true, false, false, false] rfl rfl (any_of HT_.out (by kernel_rfl)) (fun _ _ _ h => h) (Or.inl ⟨by rfl, ?_⟩) ?_ ?_; rotate_left; (intro w'; go_simp; with_reducible rfl); rotate_left; (simp only [Act.put, sI_, s0_, sS_, i64_w, i32_w]; rfl)
                                   refine take_ (i := 12) (N := some 126) (v := ?_) (a' := ?_) (bA 14 17) rfl rfl (take_ofW HT_.out HW_.out (by kernel_rfl)) (fun _ _ _ h => h) (Or.inl ⟨by rfl, ?_⟩) hHeld ?_ ?_; rotate_left; (rintro w' ⟨s0, s1⟩; go_simp; with_reducible rfl); rotate_left; (simp only [Act.put, sI_, s0_, sS_, i64_w, i32_w]; rfl)
                                   refine pure_ (i := 14) (N := some 128) (v := ?_) (a' := ?_) (bA 15 17) rfl rfl (any_of HT_.out (by kernel_rfl)) (fun _ _ _ h => h) (Or.inl ⟨by rfl, ?_⟩) ?_ ?_; rotate_left; (intro w'; go_simp; with_reducible rfl); rotate_left; (simp only [Act.put, sI_, s0_, sS_, i64_w, i32_w]; rfl)
                                   refine pure_ (i := 15) (N := some 129) (v := ?_) (a' := ?_) (bA 16 17) rfl rfl (any_of HT_.out (by kernel_rfl)) (fun _ _ _ h => h) (Or.inl ⟨by rfl, ?_⟩) ?_ ?_; rotate_left; (intro w'; go_simp; with_reducible rfl); rotate_left; (simp only [Act.put, sI_, s0_, sS_, i64_w, i32_w]; rfl)
                                   refine pure_ (i := 16) (N := some 24) (v := ?_) (a' := ?_) (bA 17 17) rfl rfl (any_of HT_.out (by kernel_rfl)) (fun _ _ _ h => h) (Or.inl ⟨by rfl, ?_⟩) ?_ ?_; rotate_left; (intro w'; go_simp; with_reducible rfl); rotate_left; (simp only [Act.put, sI_, s0_, sS_, i64_w, i32_w]; rfl)
                                   refine done_ (done_of HT_.out (by kernel_rfl)) ?_
                                   try go_wp2
                                   replace HO_11 := Aside0.mk (Kd.R_drew HO_11.out)
                                   replace HO_15 := Aside0.mk (Kd.R_drew HO_15.out)
                                   replace HO_52 := Aside0.mk (Kd.R_drew HO_52.out)
                                   replace BK325 := Aside0.mk (blk_drew BK325.out)
                                   replace BK329 := Aside0.mk (blk_drew BK329.out)
                                   replace HB := Aside0.mk (below_drew1 HB.out)
                                   have p346 : 0 ≤ ((ji63) : Int) := of_decide_eq_true tW_
                                   have q346 : (ji63) < (x15_3.length : Int) := of_decide_eq_true tW_
                                   obtain ⟨ad346, e346, hx346_0⟩ := Kd.at_int (Kd.R_reads' HO_15.out).2.2 (ji63) p346 q346
                                   obtain rfl : ad344 = ad346 := (by injection e346)
                                   replace p346 := eq_true p346
                                   replace q346 := eq_true q346
                                   have p347 : 0 ≤ ((ji66) : Int) := of_decide_eq_true tW_
                                   have q347 : (ji66) < (x15_3.length : Int) := of_decide_eq_true tW_
                                   obtain ⟨ad347, e347, hx347_0⟩ := Kd.at_int (Kd.R_reads' HO_15.out).2.2 (ji66) p347 q347
                                   obtain rfl : ad344 = ad347 := (by injection e347)
                                   replace p347 := eq_true p347
                                   replace q347 := eq_true q347
                                   refine start_ (n := 21) (S := fun w' => w'.cell? (ad344.add ((ji63)).toNat) = some (.int .i64 (rd x15_3 (ji63))) ∧ w'.cell? (ad344.add ((ji66)).toNat) = some (.int .i64 (rd x15_3 (ji66)))) (ds := []) #[false, false, false, false, false, false, false, false, false, false, false, false, false, false, false, false, false, false, false, false, false] (by kernel_rfl) rfl rfl ⟨hx346_0, hx347_0⟩ (fun hHeld => ?_); refine with_tabW hinterlandref02_Grow.tab26 hinterlandref02_Grow.bits26 (fun HT_ HW_ => ?_)
                                   generalize w76.drew = w77 at HO_11 HO_15 HO_52 BK325 BK329 HB hx346_0 hx347_0 hHeld ⊢
                                   refine pure_ (i := 0) (N := some 130) (v := ?_) (a' := ?_) (bA 1 21) rfl rfl (any_of HT_.out (by kernel_rfl)) (fun _ _ _ h => h) (Or.inl ⟨by rfl, ?_⟩) ?_ ?_; rotate_left; (intro w'; go_simp; with_reducible rfl); rotate_left; (simp only [Act.put, sI_, s0_, sS_, i64_w, i32_w]; rfl)
                                   refine pure_ (i := 1) (N := some 131) (v := ?_) (a' := ?_) (bA 2 21) rfl rfl (any_of HT_.out (by kernel_rfl)) (fun _ _ _ h => h) (Or.inl ⟨by rfl, ?_⟩) ?_ ?_; rotate_left; (intro w'; go_simp; with_reducible rfl); rotate_left; (simp only [Act.put, sI_, s0_, sS_, i64_w, i32_w]; rfl)
                                   refine pure_ (i := 2) (N := some 132) (v := ?_) (a' := ?_) (bA 3 21) rfl rfl (any_of HT_.out (by kernel_rfl)) (fun _ _ _ h => h) (Or.inl ⟨by rfl, ?_⟩) ?_ ?_; rotate_left; (intro w'; go_simp; with_reducible rfl); rotate_left; (simp only [Act.put, sI_, s0_, sS_, i64_w, i32_w]; rfl)
                                   refine pure_ (i := 3) (N := some 133) (v := ?_) (a' := ?_) (bA 4 21) rfl rfl (any_of HT_.out (by kernel_rfl)) (fun _ _ _ h => h) (Or.inl ⟨by rfl, ?_⟩) ?_ ?_; rotate_left; (intro w'; go_simp; with_reducible rfl); rotate_left; (simp only [Act.put, sI_, s0_, sS_, i64_w, i32_w]; rfl)
                                   refine pure_ (i := 4) (N := some 134) (v := ?_) (a' := ?_) (bA 5 21) rfl rfl (any_of HT_.out (by kernel_rfl)) (fun _ _ _ h => h) (Or.inl ⟨by rfl, ?_⟩) ?_ ?_; rotate_left; (intro w'; go_simp; with_reducible rfl); rotate_left; (simp only [Act.put, sI_, s0_, sS_, i64_w, i32_w]; rfl)
                                   refine pure_ (i := 6) (N := some 136) (v := ?_) (a' := ?_) #[true, true, true, true, true, false, true, false, false, false, false, false, false, false, false, false, false, false, false, false, false] rfl rfl (any_of HT_.out (by kernel_rfl)) (fun _ _ _ h => h) (Or.inl ⟨by rfl, ?_⟩) ?_ ?_; rotate_left; (intro w'; go_simp; with_reducible rfl); rotate_left; (simp only [Act.put, sI_, s0_, sS_, i64_w, i32_w]; rfl)
                                   refine pure_ (i := 7) (N := some 137) (v := ?_) (a' := ?_) #[true, true, true, true, true, false, true, true, false, false, false, false, false, false, false, false, false, false, false, false, false] rfl rfl (any_of HT_.out (by kernel_rfl)) (fun _ _ _ h => h) (Or.inl ⟨by rfl, ?_⟩) ?_ ?_; rotate_left; (intro w'; go_simp; with_reducible rfl); rotate_left; (simp only [Act.put, sI_, s0_, sS_, i64_w, i32_w]; rfl)
                                   refine pure_ (i := 8) (N := some 138) (v := ?_) (a' := ?_) #[true, true, true, true, true, false, true, true, true, false, false, false, false, false, false, false, false, false, false, false, false] rfl rfl (any_of HT_.out (by kernel_rfl)) (fun _ _ _ h => h) (Or.inl ⟨by rfl, ?_⟩) ?_ ?_; rotate_left; (intro w'; go_simp; with_reducible rfl); rotate_left; (simp only [Act.put, sI_, s0_, sS_, i64_w, i32_w]; rfl)
                                   refine pure_ (i := 10) (N := some 140) (v := ?_) (a' := ?_) #[true, true, true, true, true, false, true, true, true, false, true, false, false, false, false, false, false, false, false, false, false] rfl rfl (any_of HT_.out (by kernel_rfl)) (fun _ _ _ h => h) (Or.inl ⟨by rfl, ?_⟩) ?_ ?_; rotate_left; (intro w'; go_simp; with_reducible rfl); rotate_left; (simp only [Act.put, sI_, s0_, sS_, i64_w, i32_w]; rfl)
                                   refine pure_ (i := 11) (N := some 141) (v := ?_) (a' := ?_) #[true, true, true, true, true, false, true, true, true, false, true, true, false, false, false, false, false, false, false, false, false] rfl rfl (any_of HT_.out (by kernel_rfl)) (fun _ _ _ h => h) (Or.inl ⟨by rfl, ?_⟩) ?_ ?_; rotate_left; (intro w'; go_simp; with_reducible rfl); rotate_left; (simp only [Act.put, sI_, s0_, sS_, i64_w, i32_w]; rfl)
                                   refine pure_ (i := 12) (N := some 142) (v := ?_) (a' := ?_) #[true, true, true, true, true, false, true, true, true, false, true, true, true, false, false, false, false, false, false, false, false] rfl rfl (any_of HT_.out (by kernel_rfl)) (fun _ _ _ h => h) (Or.inl ⟨by rfl, ?_⟩) ?_ ?_; rotate_left; (intro w'; go_simp; with_reducible rfl); rotate_left; (simp only [Act.put, sI_, s0_, sS_, i64_w, i32_w]; rfl)
                                   refine pure_ (i := 13) (N := some 143) (v := ?_) (a' := ?_) #[true, true, true, true, true, false, true, true, true, false, true, true, true, true, false, false, false, false, false, false, false] rfl rfl (any_of HT_.out (by kernel_rfl)) (fun _ _ _ h => h) (Or.inl ⟨by rfl, ?_⟩) ?_ ?_; rotate_left; (intro w'; go_simp; with_reducible rfl); rotate_left; (simp only [Act.put, sI_, s0_, sS_, i64_w, i32_w]; rfl)
                                   refine pure_ (i := 14) (N := some 144) (v := ?_) (a' := ?_) #[true, true, true, true, true, false, true, true, true, false, true, true, true, true, true, false, false, false, false, false, false] rfl rfl (any_of HT_.out (by kernel_rfl)) (fun _ _ _ h => h) (Or.inl ⟨by rfl, ?_⟩) ?_ ?_; rotate_left; (intro w'; go_simp; with_reducible rfl); rotate_left; (simp only [Act.put, sI_, s0_, sS_, i64_w, i32_w]; rfl)
                                   refine pure_ (i := 15) (N := some 145) (v := ?_) (a' := ?_) #[true, true, true, true, true, false, true, true, true, false, true, true, true, true, true, true, false, false, false, false, false] rfl rfl (any_of HT_.out (by kernel_rfl)) (fun _ _ _ h => h) (Or.inl ⟨by rfl, ?_⟩) ?_ ?_; rotate_left; (intro w'; go_simp; with_reducible rfl); rotate_left; (simp only [Act.put, sI_, s0_, sS_, i64_w, i32_w]; rfl)
                                   refine pure_ (i := 17) (N := some 147) (v := ?_) (a' := ?_) #[true, true, true, true, true, false, true, true, true, false, true, true, true, true, true, true, false, true, false, false, false] rfl rfl (any_of HT_.out (by kernel_rfl)) (fun _ _ _ h => h) (Or.inl ⟨by rfl, ?_⟩) ?_ ?_; rotate_left; (intro w'; go_simp; with_reducible rfl); rotate_left; (simp only [Act.put, sI_, s0_, sS_, i64_w, i32_w]; rfl)
                                   refine take_ (i := 5) (N := some 135) (v := ?_) (a' := ?_) #[true, true, true, true, true, true, true, true, true, false, true, true, true, true, true, true, false, true, false, false, false] rfl rfl (take_ofW HT_.out HW_.out (by kernel_rfl)) (fun _ _ _ h => h) (Or.inl ⟨by rfl, ?_⟩) hHeld ?_ ?_; rotate_left; (rintro w' ⟨s0, s1⟩; go_simp; with_reducible rfl); rotate_left; (simp only [Act.put, sI_, s0_, sS_, i64_w, i32_w]; rfl)
                                   refine pure_ (i := 9) (N := some 139) (v := ?_) (a' := ?_) #[true, true, true, true, true, true, true, true, true, true, true, true, true, true, true, true, false, true, false, false, false] rfl rfl (any_of HT_.out (by kernel_rfl)) (fun _ _ _ h => h) (Or.inl ⟨by rfl, ?_⟩) ?_ ?_; rotate_left; (intro w'; go_simp; with_reducible rfl); rotate_left; (simp only [Act.put, sI_, s0_, sS_, i64_w, i32_w]; rfl)
                                   refine take_ (i := 16) (N := some 146) (v := ?_) (a' := ?_) (bA 18 21) rfl rfl (take_ofW HT_.out HW_.out (by kernel_rfl)) (fun _ _ _ h => h) (Or.inl ⟨by rfl, ?_⟩) hHeld ?_ ?_; rotate_left; (rintro w' ⟨s0, s1⟩; go_simp; with_reducible rfl); rotate_left; (simp only [Act.put, sI_, s0_, sS_, i64_w, i32_w]; rfl)
                                   refine pure_ (i := 18) (N := some 148) (v := ?_) (a' := ?_) (bA 19 21) rfl rfl (any_of HT_.out (by kernel_rfl)) (fun _ _ _ h => h) (Or.inl ⟨by rfl, ?_⟩) ?_ ?_; rotate_left; (intro w'; go_simp; with_reducible rfl); rotate_left; (simp only [Act.put, sI_, s0_, sS_, i64_w, i32_w]; rfl)
                                   refine pure_ (i := 19) (N := some 149) (v := ?_) (a' := ?_) (bA 20 21) rfl rfl (any_of HT_.out (by kernel_rfl)) (fun _ _ _ h => h) (Or.inl ⟨by rfl, ?_⟩) ?_ ?_; rotate_left; (intro w'; go_simp; with_reducible rfl); rotate_left; (simp only [Act.put, sI_, s0_, sS_, i64_w, i32_w]; rfl)
                                   refine pure_ (i := 20) (N := some 25) (v := ?_) (a' := ?_) (bA 21 21) rfl rfl (any_of HT_.out (by kernel_rfl)) (fun _ _ _ h => h) (Or.inl ⟨by rfl, ?_⟩) ?_ ?_; rotate_left; (intro w'; go_simp; with_reducible rfl); rotate_left; (simp only [Act.put, sI_, s0_, sS_, i64_w, i32_w]; rfl)
                                   refine done_ (done_of HT_.out (by kernel_rfl)) ?_
                                   try go_wp2
                                   replace HO_11 := Aside0.mk (Kd.R_drew HO_11.out)
                                   replace HO_15 := Aside0.mk (Kd.R_drew HO_15.out)
                                   replace HO_52 := Aside0.mk (Kd.R_drew HO_52.out)
                                   replace BK325 := Aside0.mk (blk_drew BK325.out)
                                   replace BK329 := Aside0.mk (blk_drew BK329.out)
                                   replace HB := Aside0.mk (below_drew1 HB.out)
                                   obtain ⟨Ao79, co79, eo79⟩ := Kd.R_slice HO_11.out
                                   (first | subst eo79 | (injection eo79 with f1_ f2_ f3_; have f4_ := f1_.symm; have f5_ := f3_.symm; clear f1_ f2_ f3_; subst f4_; subst f5_))
                                   have p348 : 0 ≤ ((ji69) : Int) := of_decide_eq_true tW_
                                   have q348 : (ji69) < (x11_5.length : Int) := of_decide_eq_true tW_
                                   obtain ⟨ad348, e348, hx348_0⟩ := Kd.at_int (Kd.R_reads' HO_11.out).2.2 (ji69) p348 q348
                                   cases e348
                                   replace p348 := eq_true p348
                                   replace q348 := eq_true q348
                                   have p73 : 0 ≤ ((ji69) : Int) := of_decide_eq_true tW_
                                   have q73 : ((ji69) : Int) < ((x11_5.length : Int) : Int) := of_decide_eq_true tW_
                                   obtain ⟨go73, co73, eo73, gb73, gl73, cl73, HG73⟩ := Kd.R_form HO_11.out (by omega)
                                   (first | cases eo73 | (injection eo73 with ea_ en_ ec_; (first | subst ea_ | (injection ea_ with ea_; subst ea_)); subst ec_; clear en_))
                                   have GB73 := Aside0.mk gb73
                                   have GG73 := Aside0.mk HG73
                                   clear gb73 gl73 HG73
                                   (first | simp only [add_plain] at hx348_0 | skip)
                                   obtain ⟨hx73_0, hf73_0⟩ := Kd.R_celln 0 HO_11.out ((ji69) : Int) p73 q73
                                   replace p73 := eq_true p73
                                   replace q73 := eq_true q73
                                   have HP80 := Kd.R_putn HO_11.out ((ji69) : Int) (wrap64 ((rd x11_5 (ji69)) + (wrap64 (Int.tdiv (wrap64 ((wrap64 ((wrap64 ((wrap64 ((rd x15_3 (ji57)) * (wrap64 ((rd x52_2 x54_2) - (Int.tmod x20_5 (rd x52_2 x54_2)))))) + (wrap64 ((rd x15_3 (ji60)) * (Int.tmod x20_5 (rd x52_2 x54_2)))))) * (wrap64 ((rd x52_2 x54_2) - (Int.tmod x19_4 (rd x52_2 x54_2)))))) + (wrap64 ((wrap64 ((wrap64 ((rd x15_3 (ji63)) * (wrap64 ((rd x52_2 x54_2) - (Int.tmod x20_5 (rd x52_2 x54_2)))))) + (wrap64 ((rd x15_3 (ji66)) * (Int.tmod x20_5 (rd x52_2 x54_2)))))) * (Int.tmod x19_4 (rd x52_2 x54_2)))))) (wrap64 ((rd x52_2 x54_2) * (rd x52_2 x54_2)))))))
                                   rw [← Ny349.out] at HP80
                                   have HQ80 := Aside0.mk HP80
                                   clear HP80
                                   refine start_ (n := 25) (S := fun w' => w'.cell? ⟨go73, ((ji69)).toNat, none⟩ = some (.int .i64 (rd x11_5 (ji69)))) (ds := [24]) #[false, false, false, false, false, false, false, false, false, false, false, false, false, false, false, false, false, false, false, false, false, false, false, false, false] (by kernel_rfl) rfl rfl (hx348_0) (fun hHeld => ?_); refine with_tabW hinterlandref02_Grow.tab27 hinterlandref02_Grow.bits27 (fun HT_ HW_ => ?_)
                                   generalize w77.drew = w78 at HO_11 HO_15 HO_52 BK325 BK329 HB GG73 HQ80 hf73_0 hx348_0 hx73_0 hHeld ⊢
                                   refine pure_ (i := 0) (N := some 150) (v := ?_) (a' := ?_) (bA 1 25) rfl rfl (any_of HT_.out (by kernel_rfl)) (fun _ _ _ h => h) (Or.inl ⟨by rfl, ?_⟩) ?_ ?_; rotate_left; (intro w'; go_simp; with_reducible rfl); rotate_left; (simp only [Act.put, sI_, s0_, sS_, i64_w, i32_w]; rfl)
                                   refine pure_ (i := 1) (N := some 151) (v := ?_) (a' := ?_) (bA 2 25) rfl rfl (any_of HT_.out (by kernel_rfl)) (fun _ _ _ h => h) (Or.inl ⟨by rfl, ?_⟩) ?_ ?_; rotate_left; (intro w'; go_simp; with_reducible rfl); rotate_left; (simp only [Act.put, sI_, s0_, sS_, i64_w, i32_w]; rfl)
                                   refine pure_ (i := 2) (N := some 152) (v := ?_) (a' := ?_) (bA 3 25) rfl rfl (any_of HT_.out (by kernel_rfl)) (fun _ _ _ h => h) (Or.inl ⟨by rfl, ?_⟩) ?_ ?_; rotate_left; (intro w'; go_simp; with_reducible rfl); rotate_left; (simp only [Act.put, sI_, s0_, sS_, i64_w, i32_w]; rfl)
                                   refine pure_ (i := 3) (N := some 153) (v := ?_) (a' := ?_) (bA 4 25) rfl rfl (any_of HT_.out (by kernel_rfl)) (fun _ _ _ h => h) (Or.inl ⟨by rfl, ?_⟩) ?_ ?_; rotate_left; (intro w'; go_simp; with_reducible rfl); rotate_left; (simp only [Act.put, sI_, s0_, sS_, i64_w, i32_w]; rfl)
                                   refine pure_ (i := 4) (N := some 154) (v := ?_) (a' := ?_) (bA 5 25) rfl rfl (any_of HT_.out (by kernel_rfl)) (fun _ _ _ h => h) (Or.inl ⟨by rfl, ?_⟩) ?_ ?_; rotate_left; (intro w'; go_simp; with_reducible rfl); rotate_left; (simp only [Act.put, sI_, s0_, sS_, i64_w, i32_w]; rfl)
                                   refine pure_ (i := 5) (N := some 155) (v := ?_) (a' := ?_) (bA 6 25) rfl rfl (any_of HT_.out (by kernel_rfl)) (fun _ _ _ h => h) (Or.inl ⟨by rfl, ?_⟩) ?_ ?_; rotate_left; (intro w'; go_simp; with_reducible rfl); rotate_left; (simp only [Act.put, sI_, s0_, sS_, i64_w, i32_w]; rfl)
                                   refine pure_ (i := 6) (N := some 156) (v := ?_) (a' := ?_) (bA 7 25) rfl rfl (any_of HT_.out (by kernel_rfl)) (fun _ _ _ h => h) (Or.inl ⟨by rfl, ?_⟩) ?_ ?_; rotate_left; (intro w'; go_simp; with_reducible rfl); rotate_left; (simp only [Act.put, sI_, s0_, sS_, i64_w, i32_w]; rfl)
                                   refine pure_ (i := 7) (N := some 157) (v := ?_) (a' := ?_) (bA 8 25) rfl rfl (any_of HT_.out (by kernel_rfl)) (fun _ _ _ h => h) (Or.inl ⟨by rfl, ?_⟩) ?_ ?_; rotate_left; (intro w'; go_simp; with_reducible rfl); rotate_left; (simp only [Act.put, sI_, s0_, sS_, i64_w, i32_w]; rfl)
                                   refine pure_ (i := 9) (N := some 159) (v := ?_) (a' := ?_) #[true, true, true, true, true, true, true, true, false, true, false, false, false, false, false, false, false, false, false, false, false, false, false, false, false] rfl rfl (any_of HT_.out (by kernel_rfl)) (fun _ _ _ h => h) (Or.inl ⟨by rfl, ?_⟩) ?_ ?_; rotate_left; (intro w'; go_simp; with_reducible rfl); rotate_left; (simp only [Act.put, sI_, s0_, sS_, i64_w, i32_w]; rfl)
                                   refine pure_ (i := 10) (N := some 160) (v := ?_) (a' := ?_) #[true, true, true, true, true, true, true, true, false, true, true, false, false, false, false, false, false, false, false, false, false, false, false, false, false] rfl rfl (any_of HT_.out (by kernel_rfl)) (fun _ _ _ h => h) (Or.inl ⟨by rfl, ?_⟩) ?_ ?_; rotate_left; (intro w'; go_simp; with_reducible rfl); rotate_left; (simp only [Act.put, sI_, s0_, sS_, i64_w, i32_w]; rfl)
                                   refine pure_ (i := 11) (N := some 161) (v := ?_) (a' := ?_) #[true, true, true, true, true, true, true, true, false, true, true, true, false, false, false, false, false, false, false, false, false, false, false, false, false] rfl rfl (any_of HT_.out (by kernel_rfl)) (fun _ _ _ h => h) (Or.inl ⟨by rfl, ?_⟩) ?_ ?_; rotate_left; (intro w'; go_simp; with_reducible rfl); rotate_left; (simp only [Act.put, sI_, s0_, sS_, i64_w, i32_w]; rfl)
                                   refine pure_ (i := 12) (N := some 162) (v := ?_) (a' := ?_) #[true, true, true, true, true, true, true, true, false, true, true, true, true, false, false, false, false, false, false, false, false, false, false, false, false] rfl rfl (any_of HT_.out (by kernel_rfl)) (fun _ _ _ h => h) (Or.inl ⟨by rfl, ?_⟩) ?_ ?_; rotate_left; (intro w'; go_simp; with_reducible rfl); rotate_left; (simp only [Act.put, sI_, s0_, sS_, i64_w, i32_w]; rfl)
                                   refine pure_ (i := 13) (N := some 163) (v := ?_) (a' := ?_) #[true, true, true, true, true, true, true, true, false, true, true, true, true, true, false, false, false, false, false, false, false, false, false, false, false] rfl rfl (any_of HT_.out (by kernel_rfl)) (fun _ _ _ h => h) (Or.inl ⟨by rfl, ?_⟩) ?_ ?_; rotate_left; (intro w'; go_simp; with_reducible rfl); rotate_left; (simp only [Act.put, sI_, s0_, sS_, i64_w, i32_w]; rfl)
                                   refine pure_ (i := 14) (N := some 164) (v := ?_) (a' := ?_) #[true, true, true, true, true, true, true, true, false, true, true, true, true, true, true, false, false, false, false, false, false, false, false, false, false] rfl rfl (any_of HT_.out (by kernel_rfl)) (fun _ _ _ h => h) (Or.inl ⟨by rfl, ?_⟩) ?_ ?_; rotate_left; (intro w'; go_simp; with_reducible rfl); rotate_left; (simp only [Act.put, sI_, s0_, sS_, i64_w, i32_w]; rfl)
                                   refine pure_ (i := 15) (N := some 165) (v := ?_) (a' := ?_) #[true, true, true, true, true, true, true, true, false, true, true, true, true, true, true, true, false, false, false, false, false, false, false, false, false] rfl rfl (any_of HT_.out (by kernel_rfl)) (fun _ _ _ h => h) (Or.inl ⟨by rfl, ?_⟩) ?_ ?_; rotate_left; (intro w'; go_simp; with_reducible rfl); rotate_left; (simp only [Act.put, sI_, s0_, sS_, i64_w, i32_w]; rfl)
                                   refine pure_ (i := 16) (N := some 166) (v := ?_) (a' := ?_) #[true, true, true, true, true, true, true, true, false, true, true, true, true, true, true, true, true, false, false, false, false, false, false, false, false] rfl rfl (any_of HT_.out (by kernel_rfl)) (fun _ _ _ h => h) (Or.inl ⟨by rfl, ?_⟩) ?_ ?_; rotate_left; (intro w'; go_simp; with_reducible rfl); rotate_left; (simp only [Act.put, sI_, s0_, sS_, i64_w, i32_w]; rfl)
                                   refine pure_ (i := 17) (N := some 167) (v := ?_) (a' := ?_) #[true, true, true, true, true, true, true, true, false, true, true, true, true, true, true, true, true, true, false, false, false, false, false, false, false] rfl rfl (any_of HT_.out (by kernel_rfl)) (fun _ _ _ h => h) (Or.inl ⟨by rfl, ?_⟩) ?_ ?_; rotate_left; (intro w'; go_simp; with_reducible rfl); rotate_left; (simp only [Act.put, sI_, s0_, sS_, i64_w, i32_w]; rfl)
                                   refine pure_ (i := 18) (N := some 168) (v := ?_) (a' := ?_) #[true, true, true, true, true, true, true, true, false, true, true, true, true, true, true, true, true, true, true, false, false, false, false, false, false] rfl rfl (any_of HT_.out (by kernel_rfl)) (fun _ _ _ h => h) (Or.inl ⟨by rfl, ?_⟩) ?_ ?_; rotate_left; (intro w'; go_simp; with_reducible rfl); rotate_left; (simp only [Act.put, sI_, s0_, sS_, i64_w, i32_w]; rfl)
                                   refine pure_ (i := 19) (N := some 169) (v := ?_) (a' := ?_) #[true, true, true, true, true, true, true, true, false, true, true, true, true, true, true, true, true, true, true, true, false, false, false, false, false] rfl rfl (any_of HT_.out (by kernel_rfl)) (fun _ _ _ h => h) (Or.inl ⟨by rfl, ?_⟩) ?_ ?_; rotate_left; (intro w'; go_simp; with_reducible rfl); rotate_left; (simp only [Act.put, sI_, s0_, sS_, i64_w, i32_w]; rfl)
                                   refine pure_ (i := 20) (N := some 170) (v := ?_) (a' := ?_) #[true, true, true, true, true, true, true, true, false, true, true, true, true, true, true, true, true, true, true, true, true, false, false, false, false] rfl rfl (any_of HT_.out (by kernel_rfl)) (fun _ _ _ h => h) (Or.inl ⟨by rfl, ?_⟩) ?_ ?_; rotate_left; (intro w'; go_simp; with_reducible rfl); rotate_left; (simp only [Act.put, sI_, s0_, sS_, i64_w, i32_w]; rfl)
                                   refine pure_ (i := 21) (N := some 171) (v := ?_) (a' := ?_) #[true, true, true, true, true, true, true, true, false, true, true, true, true, true, true, true, true, true, true, true, true, true, false, false, false] rfl rfl (any_of HT_.out (by kernel_rfl)) (fun _ _ _ h => h) (Or.inl ⟨by rfl, ?_⟩) ?_ ?_; rotate_left; (intro w'; go_simp; with_reducible rfl); rotate_left; (simp only [Act.put, sI_, s0_, sS_, i64_w, i32_w]; rfl)
                                   refine take_ (i := 8) (N := some 158) (v := ?_) (a' := ?_) (bA 22 25) rfl rfl (take_ofW HT_.out HW_.out (by kernel_rfl)) (fun _ _ _ h => h) (Or.inl ⟨by rfl, ?_⟩) hHeld ?_ ?_; rotate_left; (intro w' s0; go_simp; with_reducible rfl); rotate_left; (simp only [Act.put, sI_, s0_, sS_, i64_w, i32_w]; rfl)
                                   refine pure_ (i := 22) (N := some 172) (v := ?_) (a' := ?_) (bA 23 25) rfl rfl (any_of HT_.out (by kernel_rfl)) (fun _ _ _ h => h) (Or.inl ⟨by rfl, ?_⟩) ?_ ?_; rotate_left; (intro w'; go_simp; with_reducible rfl); rotate_left; (simp only [Act.put, sI_, s0_, sS_, i64_w, i32_w]; rfl)
                                   refine pure_ (i := 23) (N := some 173) (v := ?_) (a' := ?_) (bA 24 25) rfl rfl (any_of HT_.out (by kernel_rfl)) (fun _ _ _ h => h) (Or.inl ⟨by rfl, ?_⟩) ?_ ?_; rotate_left; (intro w'; go_simp; with_reducible rfl); rotate_left; (simp only [Act.put, sI_, s0_, sS_, i64_w, i32_w]; rfl)
                                   refine last_ (i := 24) (N := none) #[true, true, true, true, true, true, true, true, true, true, true, true, true, true, true, true, true, true, true, true, true, true, true, true, true] rfl rfl (one_of HT_.out (by kernel_rfl)) (by decide) (fun K hK => ?_)
                                   refine skip_ (w1 := ?_) (by rfl) rfl ?_ ?_
                                   rotate_left
                                   ·go_simp
                                    rfl
                                   refine hK.out _ _ ?_
                                   clear hK K
                                   refine done_ (done_of HT_.out (by kernel_rfl)) ?_
                                   try go_wp2
                                   go_roundg k5
                                   case measure => have := HJ4.out; have := HK2.out; have := HK3.out; have := HK4.out; have := HK5.out; omega
                                   case rel => exact ⟨(y349), (wrap64 (x20_5 + 1)), tS_, H', ⟨by have := HJ4.out; have := HK2.out; have := HK3.out; have := HK4.out; have := HK5.out; omega⟩, ⟨by (try simp only [hl52_2]); (try simp only [hl15_3]); (with_reducible repeat (first | apply Kd.R_alloc | apply Kd.R_drewN | apply Kd.R_drew)); exact HQ80.out⟩, ⟨by (try simp only [hl52_2]); (try simp only [hl15_3]); (with_reducible repeat (first | apply Kd.R_alloc | apply Kd.R_drewN | apply Kd.R_drew)); exact Kd.R_mono (Kd.R_far (p := ⟨go73, ((ji69) : Int).toNat, none⟩) (Kd.R_mono HO_15.out (fun k_ hk => (⟨hk, fun e_ => hk.1 (by rw [e_]; rfl)⟩ : _ ∧ k_ ≠ go73))) (fun _ hk => hk.2) (.int .i64 (wrap64 ((rd x11_5 (ji69)) + (wrap64 (Int.tdiv (wrap64 ((wrap64 ((wrap64 ((wrap64 ((rd x15_3 (ji57)) * (wrap64 ((rd x52_2 x54_2) - (Int.tmod x20_5 (rd x52_2 x54_2)))))) + (wrap64 ((rd x15_3 (ji60)) * (Int.tmod x20_5 (rd x52_2 x54_2)))))) * (wrap64 ((rd x52_2 x54_2) - (Int.tmod x19_4 (rd x52_2 x54_2)))))) + (wrap64 ((wrap64 ((wrap64 ((rd x15_3 (ji63)) * (wrap64 ((rd x52_2 x54_2) - (Int.tmod x20_5 (rd x52_2 x54_2)))))) + (wrap64 ((rd x15_3 (ji66)) * (Int.tmod x20_5 (rd x52_2 x54_2)))))) * (Int.tmod x19_4 (rd x52_2 x54_2)))))) (wrap64 ((rd x52_2 x54_2) * (rd x52_2 x54_2))))))))) (fun _ hk => ⟨hk.1.1, hk.1.2⟩)⟩, ⟨by (try simp only [hl52_2]); (try simp only [hl15_3]); (with_reducible repeat (first | apply Kd.R_alloc | apply Kd.R_drewN | apply Kd.R_drew)); exact Kd.R_mono (Kd.R_far (p := ⟨go73, ((ji69) : Int).toNat, none⟩) (Kd.R_mono HO_52.out (fun k_ hk => (⟨hk, fun e_ => hk.1 (by rw [e_]; rfl)⟩ : _ ∧ k_ ≠ go73))) (fun _ hk => hk.2) (.int .i64 (wrap64 ((rd x11_5 (ji69)) + (wrap64 (Int.tdiv (wrap64 ((wrap64 ((wrap64 ((wrap64 ((rd x15_3 (ji57)) * (wrap64 ((rd x52_2 x54_2) - (Int.tmod x20_5 (rd x52_2 x54_2)))))) + (wrap64 ((rd x15_3 (ji60)) * (Int.tmod x20_5 (rd x52_2 x54_2)))))) * (wrap64 ((rd x52_2 x54_2) - (Int.tmod x19_4 (rd x52_2 x54_2)))))) + (wrap64 ((wrap64 ((wrap64 ((rd x15_3 (ji63)) * (wrap64 ((rd x52_2 x54_2) - (Int.tmod x20_5 (rd x52_2 x54_2)))))) + (wrap64 ((rd x15_3 (ji66)) * (Int.tmod x20_5 (rd x52_2 x54_2)))))) * (Int.tmod x19_4 (rd x52_2 x54_2)))))) (wrap64 ((rd x52_2 x54_2) * (rd x52_2 x54_2))))))))) (fun _ hk => ⟨hk.1.1, hk.1.2⟩)⟩, ⟨by (try simp only [hl52_2]); (try simp only [hl15_3]); (with_reducible repeat (first | refine blk_drewN ?_ _ | refine blk_drew ?_ | refine blk_alloc ?_ _)); refine blk_far ?_ (by have h_ := Kd.R_ne HO_11.out BK325.out (by decide); intro e_; exact h_ (by rw [e_]; rfl)) _; (with_reducible repeat (first | refine blk_drewN ?_ _ | refine blk_drew ?_ | refine blk_alloc ?_ _)); exact BK325.out⟩, ⟨by (try simp only [hl52_2]); (try simp only [hl15_3]); (with_reducible repeat (first | refine blk_drewN ?_ _ | refine blk_drew ?_ | refine blk_alloc ?_ _)); refine blk_far ?_ (by have h_ := Kd.R_ne HO_11.out BK329.out (by decide); intro e_; exact h_ (by rw [e_]; rfl)) _; (with_reducible repeat (first | refine blk_drewN ?_ _ | refine blk_drew ?_ | refine blk_alloc ?_ _)); exact BK329.out⟩, ⟨dL3_ HB GB73 GE325 GE329⟩⟩
                                 ·rw [if_neg c71] at H
                                  exact absurd H (by simp)
                                ·rw [if_neg c70] at H
                                 exact absurd H (by simp)
                               ·rw [if_neg c68] at H
                                exact absurd H (by simp)
                              ·rw [if_neg c67] at H
                               exact absurd H (by simp)
                             ·rw [if_neg c65] at H
                              exact absurd H (by simp)
                            ·rw [if_neg c64] at H
                             exact absurd H (by simp)
                           ·rw [if_neg c62] at H
                            exact absurd H (by simp)
                          ·rw [if_neg c61] at H
                           exact absurd H (by simp)
                         ·rw [if_neg c59] at H
                          exact absurd H (by simp)
                        ·rw [if_neg c58] at H
                         exact absurd H (by simp)
                      ·rw [if_neg c55] at H
                       have c55b0 : decide (x20_5 ≤ a1) = false := decide_eq_false c55
                       clear c55
                       (try (have c55y0 := c55b0; simp only [hl52_2, hl15_3] at c55y0))
                       (try (have c55y1 := c55b1; simp only [hl52_2, hl15_3] at c55y1))
                       (try (have c55y2 := c55b2; simp only [hl52_2, hl15_3] at c55y2))
                       have H' := Aside0.mk H
                       clear H
                       go_wp2
                       go_roundg k5
                       case measure => have := HJ4.out; have := HK2.out; have := HK3.out; have := HK4.out; have := HK5.out; omega
                       case rel => exact ⟨(x11_5), (wrap64 (x19_4 + 1)), tS_, H', ⟨by have := HJ4.out; have := HK2.out; have := HK3.out; have := HK4.out; have := HK5.out; omega⟩, ⟨by (try simp only [hl52_2]); (try simp only [hl15_3]); (with_reducible repeat (first | apply Kd.R_alloc | apply Kd.R_drewN | apply Kd.R_drew)); exact HO_11.out⟩, ⟨by (try simp only [hl52_2]); (try simp only [hl15_3]); (with_reducible repeat (first | apply Kd.R_alloc | apply Kd.R_drewN | apply Kd.R_drew)); exact HO_15.out⟩, ⟨by (try simp only [hl52_2]); (try simp only [hl15_3]); (with_reducible repeat (first | apply Kd.R_alloc | apply Kd.R_drewN | apply Kd.R_drew)); exact HO_52.out⟩, ⟨by (try simp only [hl52_2]); (try simp only [hl15_3]); (with_reducible repeat (first | refine blk_drewN ?_ _ | refine blk_drew ?_ | refine blk_alloc ?_ _)); exact BK325.out⟩, ⟨by (try simp only [hl52_2]); (try simp only [hl15_3]); (with_reducible repeat (first | refine blk_drewN ?_ _ | refine blk_drew ?_ | refine blk_alloc ?_ _)); exact BK329.out⟩, ⟨dL2_ HB GE325 GE329⟩⟩
                   ·rw [if_neg c54] at H
                    have c54b0 : decide (x19_4 ≤ a2) = false := decide_eq_false c54
                    clear c54
                    (try (have c54y0 := c54b0; simp only [hl52_2, hl15_3] at c54y0))
                    (try (have c54y1 := c54b1; simp only [hl52_2, hl15_3] at c54y1))
                    (try (have c54y2 := c54b2; simp only [hl52_2, hl15_3] at c54y2))
                    have H' := Aside0.mk H
                    clear H
                    go_wp2
                    (try simp only [← hl52_2, ← hl15_3])
                    go_roundg k4
                    case measure => have := HJ4.out; have := HK2.out; have := HK3.out; have := HK4.out; omega
                    case rel => exact ⟨(x11_4), (x52_2), (wrap64 (x54_2 + 1)), (x330000_3), tS_, H', ⟨by have := HJ4.out; have := HK2.out; have := HK3.out; have := HK4.out; omega⟩, ⟨by (try simp only [hl52_2]); (try simp only [hl15_3]); (with_reducible repeat (first | apply Kd.R_alloc | apply Kd.R_drewN | apply Kd.R_drew)); exact Kd.R_mono HO_11.out (fun _ hk => hk.2)⟩, ⟨by (try simp only [hl52_2]); (try simp only [hl15_3]); (with_reducible repeat (first | apply Kd.R_alloc | apply Kd.R_drewN | apply Kd.R_drew)); exact Kd.R_mono HO_52.out (fun _ hk => hk.1)⟩, ⟨by (try simp only [hl52_2]); (try simp only [hl15_3]); (with_reducible repeat (first | refine blk_drewN ?_ _ | refine blk_drew ?_ | refine blk_alloc ?_ _)); exact BK325.out⟩, ⟨by (try simp only [hl52_2]); (try simp only [hl15_3]); (with_reducible repeat (first | refine blk_drewN ?_ _ | refine blk_drew ?_ | refine blk_alloc ?_ _)); exact BK329.out⟩, ⟨dL2_ HB GE325 GE329⟩⟩
             ·rw [if_neg c33] at H
              exact absurd H (by simp)
            ·rw [if_neg c32] at H
             exact absurd H (by simp)
          ·rw [if_neg c29] at H
           exact absurd H (by simp)
         ·rw [if_neg c28] at H
          exact absurd H (by simp)
        ·rw [if_neg c27] at H
         have c27b0 : decide (x54_2 < (y333.length : Int)) = false := decide_eq_false c27
         clear c27
         (try (have c27y0 := c27b0; simp only [hl52_2] at c27y0))
         (try (have c27y1 := c27b1; simp only [hl52_2] at c27y1))
         (try (have c27y2 := c27b2; simp only [hl52_2] at c27y2))
         have H' := Aside0.mk H
         clear H
         obtain ⟨Ao81, co81, eo81⟩ := Kd.R_slice HO_11.out
         subst eo81
         go_wp2
         go_loopg [177] k2 (fun kq v177 w' => ∃ (x11_3 : List Int) (x177_3 : Int), v177 = .int .i64 x177_3 ∧ Aside0 (hinterlandref02_Grow.l4 kq a1 a2 x11_3 (x11_2.length : Int) x177_3 = some (r1, r2, r3, r4)) ∧ Aside0 (kq ≤ k2) ∧ Aside0 (Kd.R (Kd.int .i64) 3 w' w.heap.size (fun _ => True) (.slice Ao81 x11_2.length co81) x11_3) ∧ Aside0 (w'.heap[gb325]? = some (.cells #[.int .i64 0, .int .i64 0, (.slice none 0 0)] 24 (0, 0))) ∧ Aside0 (w'.heap[gb329]? = some (.cells #[.int .u64 x330000_2] 52 (0, 0))) ∧ Aside0 (Below w.heap.size w w'))
         case atStart => exact ⟨(x11_2), (0), tS_, H', ⟨Nat.le_refl _⟩, ⟨by (try simp only [hl52_2]); (with_reducible repeat (first | apply Kd.R_alloc | apply Kd.R_drewN | apply Kd.R_drew)); exact Kd.R_mono HO_11.out (fun _ hk => trivial)⟩, ⟨by (try simp only [hl52_2]); (with_reducible repeat (first | refine blk_drewN ?_ _ | refine blk_drew ?_ | refine blk_alloc ?_ _)); exact BK325.out⟩, ⟨by (try simp only [hl52_2]); (with_reducible repeat (first | refine blk_drewN ?_ _ | refine blk_drew ?_ | refine blk_alloc ?_ _)); exact BK329.out⟩, ⟨dL2_ HB GE325 GE329⟩⟩
         case round =>
          clear H'
          try clear c27
          try clear c27b0
          try clear c27b1
          try clear c27b2
          try clear c28
          try clear c29
          try clear c32
          try clear c33
          try clear c54
          try clear c54b1
          try clear c54b2
          try clear c55
          try clear c55b1
          try clear c55b2
          try clear c58
          try clear c59
          try clear c61
          try clear c62
          try clear c64
          try clear c65
          try clear c67
          try clear c68
          try clear c70
          try clear c71
          obtain ⟨x11_3, x177_3, rfl, HA, HK3, HO_11, BK325, BK329, HB⟩ := hrel
          have hl11_3 := (Kd.R_reads' HO_11.out).1
          rw [hl11_3] at HO_11
          (try simp only [hl11_3])
          (try simp only [hl11_3] at BK325)
          (try simp only [hl11_3] at BK329)
          cases gk with
          | zero => exact absurd HA.out (by simp [hinterlandref02_Grow.l4])
          | succ k3 =>
           have H := HA.out
           clear HA
           simp only [hinterlandref02_Grow.l4] at H
           by_cases c82 : x177_3 < (x11_2.length : Int)
           ·rw [if_pos c82] at H
            have c82b0 : decide (x177_3 < (x11_2.length : Int)) = true := decide_eq_true c82
            clear c82
            (try (have c82y0 := c82b0; simp only [hl52_2, hl11_3] at c82y0))
            (try (have c82y1 := c82b1; simp only [hl52_2, hl11_3] at c82y1))
            (try (have c82y2 := c82b2; simp only [hl52_2, hl11_3] at c82y2))
            by_cases c83 : 0 ≤ x177_3
            ·rw [if_pos c83] at H
             have c83b0 : decide (0 ≤ x177_3) = true := decide_eq_true c83
             clear c83
             (try (have c83y0 := c83b0; simp only [hl52_2, hl11_3] at c83y0))
             (try (have c83y1 := c83b1; simp only [hl52_2, hl11_3] at c83y1))
             (try (have c83y2 := c83b2; simp only [hl52_2, hl11_3] at c83y2))
             by_cases c84 : x177_3 < (x11_3.length : Int)
             ·rw [if_pos c84] at H
              have c84b0 : decide (x177_3 < (x11_3.length : Int)) = true := decide_eq_true c84
              clear c84
              (try (have c84y0 := c84b0; simp only [hl52_2, hl11_3] at c84y0))
              (try (have c84y1 := c84b1; simp only [hl52_2, hl11_3] at c84y1))
              (try (have c84y2 := c84b2; simp only [hl52_2, hl11_3] at c84y2))
              obtain ⟨y351, hy351⟩ : ∃ y_ : List Int, y_ = (x11_3.set (x177_3 : Int).toNat (wrap64 (Int.tdiv (rd x11_3 x177_3) 2))) := ⟨_, rfl⟩
              replace H : (hinterlandref02_Grow.l4 k3 a1 a2 y351 (x11_2.length : Int) (wrap64 (x177_3 + 1))) = some (r1, r2, r3, r4) := by first | (rw [hy351]; with_reducible exact H) | (have H2_ := (Option.bind_some _ _).symm.trans H; rw [hy351]; with_reducible exact H2_) | (have H2_ := (Option.bind_some _ _).symm.trans H; with_reducible exact H2_) | with_reducible exact H | (rw [hy351]; exact H) | exact H
              have Ny351 := Aside0.mk hy351
              clear hy351
              have H' := Aside0.mk H
              clear H
              have p350 : 0 ≤ (x177_3 : Int) := of_decide_eq_true tW_
              have q350 : x177_3 < (x11_3.length : Int) := of_decide_eq_true tW_
              obtain ⟨ad350, e350, hx350_0⟩ := Kd.at_int (Kd.R_reads' HO_11.out).2.2 x177_3 p350 q350
              cases e350
              replace p350 := eq_true p350
              replace q350 := eq_true q350
              have p85 : 0 ≤ (x177_3 : Int) := of_decide_eq_true tW_
              have q85 : (x177_3 : Int) < ((x11_3.length : Int) : Int) := of_decide_eq_true tW_
              obtain ⟨go85, co85, eo85, gb85, gl85, cl85, HG85⟩ := Kd.R_form HO_11.out (by omega)
              (first | cases eo85 | (injection eo85 with ea_ en_ ec_; (first | subst ea_ | (injection ea_ with ea_; subst ea_)); subst ec_; clear en_))
              have GB85 := Aside0.mk gb85
              have GG85 := Aside0.mk HG85
              clear gb85 gl85 HG85
              (first | simp only [add_plain] at hx350_0 | skip)
              obtain ⟨hx85_0, hf85_0⟩ := Kd.R_celln 0 HO_11.out (x177_3 : Int) p85 q85
              replace p85 := eq_true p85
              replace q85 := eq_true q85
              have HP86 := Kd.R_putg HO_11.out (x177_3 : Int) (wrap64 (Int.tdiv (rd x11_3 x177_3) 2))
              go_wp2_with (first | ((with_reducible refine gate_store (t := 3) (p := 185) rfl ?_); refine store_event (t := 3) (p := 185) (v := ?vo_w87) (w1 := (wr.setCell ⟨go85, (x177_3 : Int).toNat, none⟩ (.int .i64 (wrap64 (Int.tdiv (rd x11_3 x177_3) 2))))) ?hg ?ho ?hn ?hr ?_; (case ho => rfl); (case hg => rfl); (case hn => rfl); (case hr => first | (go_simp; done) | (go_simp; rfl)); intro w87 hw; have hg : wr.grownBy w87 (some go85) := (by rw [hw]; exact HP86.2); have hp_ : Kd.R (Kd.int .i64) 3 w87 w.heap.size (fun _ => True) (.slice (some ⟨go85, 0, none⟩) x11_3.length co81) y351 := (by rw [hw, Ny351.out]; exact HP86.1); clear HP86; replace BK325 := Aside0.mk (blk_grown (g := gb325) (o := .cells #[.int .i64 0, .int .i64 0, .slice none 0 0] 24 (0, 0)) (dB_ BK325) hg (Kd.R_ne HO_11.out BK325.out (by decide))); replace BK329 := Aside0.mk (blk_grown (g := gb329) (o := .cells #[.int .u64 x330000_2] 52 (0, 0)) (dB_ BK329) hg (Kd.R_ne HO_11.out BK329.out (by decide))); replace HO_11 := Aside0.mk (hp_); replace HB := Aside0.mk ((by rw [hw]; exact below_set (HB.out) GB85.out : Below w.heap.size w w87)); clear hg hw hp_))
              (try simp only [← hl11_3])
              go_roundg k3
              case measure => have := HJ4.out; have := HK2.out; have := HK3.out; omega
              case rel => exact ⟨(y351), (wrap64 (x177_3 + 1)), tS_, H', ⟨by have := HJ4.out; have := HK2.out; have := HK3.out; omega⟩, ⟨by (try simp only [hl52_2]); (try simp only [hl11_3]); (with_reducible repeat (first | apply Kd.R_alloc | apply Kd.R_drewN | apply Kd.R_drew)); exact HO_11.out⟩, ⟨by (try simp only [hl52_2]); (try simp only [hl11_3]); (with_reducible repeat (first | refine blk_drewN ?_ _ | refine blk_drew ?_ | refine blk_alloc ?_ _)); exact BK325.out⟩, ⟨by (try simp only [hl52_2]); (try simp only [hl11_3]); (with_reducible repeat (first | refine blk_drewN ?_ _ | refine blk_drew ?_ | refine blk_alloc ?_ _)); exact BK329.out⟩, ⟨dL2_ HB GE325 GE329⟩⟩
             ·rw [if_neg c84] at H
              exact absurd H (by simp)
            ·rw [if_neg c83] at H
             exact absurd H (by simp)
           ·rw [if_neg c82] at H
            have c82b0 : decide (x177_3 < (x11_2.length : Int)) = false := decide_eq_false c82
            clear c82
            (try (have c82y0 := c82b0; simp only [hl52_2, hl11_3] at c82y0))
            (try (have c82y1 := c82b1; simp only [hl52_2, hl11_3] at c82y1))
            (try (have c82y2 := c82b2; simp only [hl52_2, hl11_3] at c82y2))
            replace H := Option.bind_eq_some_iff.mp H
            obtain ⟨⟨t352, t353, t354, t357⟩, A880, H⟩ := H
            replace H : (some (t352, t353, t354, t357)) = some (r1, r2, r3, r4) := H
            have A88 := Aside0.mk A880
            clear A880
            simp only [Option.some.injEq, Prod.mk.injEq] at H
            obtain ⟨rfl, rfl, rfl, rfl⟩ := H
            go_wp2_with (first | ((with_reducible refine gate_callee (f := 30) rfl ?_); refine goesL_ (some 190) rfl rfl Try.func30 (by kernel_rfl) rfl #[.int .i64 a1, .int .i64 a2, .slice Ao81 x11_3.length co81] rfl tA_ ?_; (with_reducible refine (hinterlandref02_Settle.calls k3 a1 a2 _ _ x11_3 t352 t353 t354 t357 _ ?side1 ?side2 A88.out).mono ?_); (case side1 => repeat (first | exact (Kd.R_reads' HO_11.out).2.2 | (with_reducible refine Kd.C_alloc ?_ _) | (with_reducible refine Kd.C_drewN ?_ _) | (with_reducible refine Kd.C_drew ?_))); (case side2 => exact (Kd.R_reads' HO_11.out).2.1); rintro e w89 ⟨v355, rfl, ho0, hb⟩; refine ⟨_, rfl, ?_⟩; have HO356 := Aside0.mk (Kd.R_lower (Kd.R_new' ho0 (Kd.R_lt (dR_ HO_11))) (below_size (dL2_ HB GE325 GE329))); replace HO_11 := Aside0.mk (Kd.R_elder' (dR_ HO_11) (Kd.R_base ho0) hb); replace BK325 := Aside0.mk (blk_below (g := gb325) (o := .cells #[.int .i64 0, .int .i64 0, .slice none 0 0] 24 (0, 0)) (dB_ BK325) hb); replace BK329 := Aside0.mk (blk_below (g := gb329) (o := .cells #[.int .u64 x330000_2] 52 (0, 0)) (dB_ BK329) hb); replace HB := Aside0.mk (below_step (dL2_ HB GE325 GE329) hb); have hnb90 := NB325_329.out; have hnc90 := NB329_325.out; obtain ⟨hcz91_0, hcz91_1, hcz91_2, hfz91_0, hfz91_1, hfz91_2⟩ := cs3_ BK325.out; obtain ⟨Ao92, co92, eo92⟩ := Kd.R_slice HO356.out; subst eo92))
            refine bodyPost_ret (results_ct rfl _ _ gb325 24 #[.int .i64 t352, .int .i64 t353, .slice Ao92 t354.length co92] (0, 0) _ rfl (by (with_reducible repeat (first | refine blk_drewN ?_ _ | refine blk_drew ?_ | refine blk_alloc ?_ _)); refine blk_put (cs := #[.int .i64 t352, .int .i64 t353, .slice none 0 0]) ?_ 2 _ rfl; (with_reducible repeat (first | refine blk_drewN ?_ _ | refine blk_drew ?_ | refine blk_alloc ?_ _)); refine blk_put (cs := #[.int .i64 t352, .int .i64 0, .slice none 0 0]) ?_ 1 _ rfl; (with_reducible repeat (first | refine blk_drewN ?_ _ | refine blk_drew ?_ | refine blk_alloc ?_ _)); refine blk_put (cs := #[.int .i64 0, .int .i64 0, .slice none 0 0]) ?_ 0 _ rfl; (with_reducible repeat (first | refine blk_drewN ?_ _ | refine blk_drew ?_ | refine blk_alloc ?_ _)); exact BK325.out) Try.underlying24 rfl (by kernel_rfl)) rfl ?_
            exact ⟨_, by first | rfl | (simp [errW_none, errW_some] <;> rfl) | (simp only [← hji15]; first | rfl | (simp [errW_none, errW_some] <;> rfl)) | (simp [*, errW_none, errW_some] <;> rfl), by (with_reducible repeat (first | apply Kd.R_alloc | apply Kd.R_drewN | apply Kd.R_drew)); exact Kd.R_mono (Kd.R_far (p := ⟨gb325, 2, none⟩) (Kd.R_far (p := ⟨gb325, 1, none⟩) (Kd.R_far (p := ⟨gb325, 0, none⟩) (Kd.R_types HO356.out BK325.out (by decide)) (fun _ hk => hk.2) (.int .i64 t352)) (fun _ hk => hk.2) (.int .i64 t353)) (fun _ hk => hk.2) (.slice Ao92 t354.length co92)) (fun _ hk => trivial), dL2_ HB GE325 GE329⟩
     ·rw [if_neg c17] at H
      exact absurd H (by simp)
    ·rw [if_neg c16] at H
     exact absurd H (by simp)

end Go.Proofs.Ytchflcnegpnkkab.Q
