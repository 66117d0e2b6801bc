-- PRINTED by print.py (a twelfth state) out of the translation. Not trusted: Lean checks it.
import Derived.Test.YtchflcnegpnkkaaPrs
import Derived.Test.YtchflcnegpnkkaaQ0
import Derived.Test.YtchflcnegpnkkaaQ2
import Derived.Test.YtchflcnegpnkkaaQ5
import Derived.Test.YtchflcnegpnkkaaQ6
import Derived.Test.YtchflcnegpnkkaaQ7
namespace Go.Proofs.Ytchflcnegpnkkaa.Q
open Go.RowKit Go.Proofs.YtchflcnegpnkkaaPrs Go.Proofs.YtchflcnegpnkkaaOwn Go.Proofs.YtchflcnegpnkkaaW.PrintWords Go.Proofs.YtchflcnegpnkkaaW.PrintLast Go.Proofs.YtchflcnegpnkkaaW.PrintMore
open List renaming setIfInBounds_toArray → sI_, set_cons_zero → s0_, set_cons_succ → sS_
attribute [local go_sem] max2_int min2_int max_two min_two max_three min_three max_four min_four   -- for this text's walks alone
set_option linter.unusedVariables false
set_option linter.unusedSimpArgs false

attribute [local go_sem high] eqA66
/-! ### land_Shift: function 19 -/
mutual
def land_Shift.j0 : Nat → Int → Int → Bool → List Int → Bool → Int → Int → List Int → Option (Int × Int × List Int × (List (S36)) × Int × Int)
  | 0, _, _, _, _, _, _, _, _ => none
  | k + 1, x1, x2, x3, x4, x49, x120000, x120001, x120002 => if x49 = true then (some (0, 0, ([] : List Int), ([] : List (S36)), 0, 2)) else (if 0 ≤ (wrap64 ((wrap64 (x2 * (wrap64 (x120000 + 1)))) + x1)) then (if (wrap64 ((wrap64 (x2 * (wrap64 (x120000 + 1)))) + x1)) < (x120002.length : Int) then (if x3 = true then (land_Shift.j1 k x1 x2 x3 x4 (wrap64 ((wrap64 ((rd x120002 (wrap64 ((wrap64 (x2 * (wrap64 (x120000 + 1)))) + x1))) - 1)) + 2)) x120000 x120001 x120002) else (land_Shift.j1 k x1 x2 x3 x4 (wrap64 ((rd x120002 (wrap64 ((wrap64 (x2 * (wrap64 (x120000 + 1)))) + x1))) - 1)) x120000 x120001 x120002)) else (none)) else (none))
def land_Shift.j1 : Nat → Int → Int → Bool → List Int → Int → Int → Int → List Int → Option (Int × Int × List Int × (List (S36)) × Int × Int)
  | 0, _, _, _, _, _, _, _, _ => none
  | k + 1, x1, x2, x3, x4, x15, x120000, x120001, x120002 => if x15 < 0 then (land_Shift.j2 k x1 x2 x3 x4 x15 true x120000 x120001 x120002) else (land_Shift.j2 k x1 x2 x3 x4 x15 (decide (x15 > 15)) x120000 x120001 x120002)
def land_Shift.j2 : Nat → Int → Int → Bool → List Int → Int → Bool → Int → Int → List Int → Option (Int × Int × List Int × (List (S36)) × Int × Int)
  | 0, _, _, _, _, _, _, _, _, _ => none
  | k + 1, x1, x2, x3, x4, x15, x71, x120000, x120001, x120002 => if x71 = true then (some (0, 0, ([] : List Int), ([] : List (S36)), 0, 6)) else (if ([] : List Int).length + x120002.length < 17592186044416 then (land_Shift.l0 k x1 x2 x3 x4 x15 ([] : List (S36)) 0 x120002 (x120002.length : Int) 0 x120000 x120001 x120002 x120000 x120001 (([] : List Int) ++ x120002)) else (none))
def land_Shift.l0 : Nat → Int → Int → Bool → List Int → Int → List (S36) → Int → List Int → Int → Int → Int → Int → List Int → Int → Int → List Int → Option (Int × Int × List Int × (List (S36)) × Int × Int)
  | 0, _, _, _, _, _, _, _, _, _, _, _, _, _, _, _, _ => none
  | k + 1, x1, x2, x3, x4, x15, x17, x18, x82, x83, x84, x120000, x120001, x120002, x127000, x127001, x127002 => if x84 < x83 then (if 0 ≤ x84 then (if x84 < (x82.length : Int) then (if (wrap64 (x120000 + 1)) = 0 then (none) else (if x3 = true then ((land_far.f x1 x2 (Int.tmod x84 (wrap64 (x120000 + 1))) (wrap64 (Int.tdiv x84 (wrap64 (x120000 + 1))))).bind fun t128 => (land_Shift.j4 k x1 x2 x3 x4 x15 x17 x18 x84 (rd x82 x84) (Int.tmod x84 (wrap64 (x120000 + 1))) (wrap64 (Int.tdiv x84 (wrap64 (x120000 + 1)))) (mx (rd x82 x84) (wrap64 (x15 - t128))) x82 x83 x84 x120000 x120001 x120002 x127000 x127001 x127002)) else ((land_far.f x1 x2 (Int.tmod x84 (wrap64 (x120000 + 1))) (wrap64 (Int.tdiv x84 (wrap64 (x120000 + 1))))).bind fun t129 => (land_Shift.j4 k x1 x2 x3 x4 x15 x17 x18 x84 (rd x82 x84) (Int.tmod x84 (wrap64 (x120000 + 1))) (wrap64 (Int.tdiv x84 (wrap64 (x120000 + 1)))) (mn (rd x82 x84) (wrap64 (x15 + t129))) x82 x83 x84 x120000 x120001 x120002 x127000 x127001 x127002)))) else (none)) else (none)) else (land_Shift.l1 k x17 x18 x4 (x4.length : Int) 0 x120000 x120001 x120002 x127000 x127001 x127002)
def land_Shift.j4 : Nat → Int → Int → Bool → List Int → Int → List (S36) → Int → Int → Int → Int → Int → Int → List Int → Int → Int → Int → Int → List Int → Int → Int → List Int → Option (Int × Int × List Int × (List (S36)) × Int × Int)
  | 0, _, _, _, _, _, _, _, _, _, _, _, _, _, _, _, _, _, _, _, _, _ => none
  | k + 1, x1, x2, x3, x4, x15, x17, x18, x19, x20, x21, x22, x23, x82, x83, x84, x120000, x120001, x120002, x127000, x127001, x127002 => if x23 = x20 then (land_Shift.l0 k x1 x2 x3 x4 x15 x17 x18 x82 x83 (wrap64 (x84 + 1)) x120000 x120001 x120002 x127000 x127001 x127002) else (if 0 ≤ x19 then (if x19 < (x127002.length : Int) then (if x17.length < 5864062014805 then (land_Shift.l0 k x1 x2 x3 x4 x15 (x17 ++ [(⟨x21, x22, x23⟩ : S36)]) (wrap64 (x18 + (wrap64 ((mx (wrap64 (x23 - x20)) (wrap64 (x20 - x23))) * 250)))) x82 x83 (wrap64 (x84 + 1)) x120000 x120001 x120002 x127000 x127001 (x127002.set (x19 : Int).toNat x23)) else (none)) else (none)) else (none))
def land_Shift.l1 : Nat → List (S36) → Int → List Int → Int → Int → Int → Int → List Int → Int → Int → List Int → Option (Int × Int × List Int × (List (S36)) × Int × Int)
  | 0, _, _, _, _, _, _, _, _, _, _, _ => none
  | k + 1, x17, x18, x145, x146, x147, x120000, x120001, x120002, x127000, x127001, x127002 => if x147 < x146 then (if 0 ≤ x147 then (if x147 < (x145.length : Int) then ((land_isTile.f x120000 x120001 x120002 (rd x145 x147)).bind fun t135 => (if t135 = true then ((land_four.f x120000 x120001 x120002 (rd x145 x147)).bind fun bt136 => ((land_four.f x127000 x127001 x127002 (rd x145 x147)).bind fun bt140 => (land_Shift.j6 k x17 x18 x145 x146 x147 (!(bt136.1 == bt140.1) || (!(bt136.2.1 == bt140.2.1) || (!(bt136.2.2.1 == bt140.2.2.1) || (!(bt136.2.2.2 == bt140.2.2.2))))) x120000 x120001 x120002 x127000 x127001 x127002))) else (land_Shift.j6 k x17 x18 x145 x146 x147 false x120000 x120001 x120002 x127000 x127001 x127002))) else (none)) else (none)) else (some (x127000, x127001, x127002, x17, x18, 0))
def land_Shift.j6 : Nat → List (S36) → Int → List Int → Int → Int → Bool → Int → Int → List Int → Int → Int → List Int → Option (Int × Int × List Int × (List (S36)) × Int × Int)
  | 0, _, _, _, _, _, _, _, _, _, _, _, _ => none
  | k + 1, x17, x18, x145, x146, x147, x162, x120000, x120001, x120002, x127000, x127001, x127002 => if x162 = true then (some (0, 0, ([] : List Int), ([] : List (S36)), 0, 7)) else (land_Shift.l1 k x17 x18 x145 x146 (wrap64 (x147 + 1)) x120000 x120001 x120002 x127000 x127001 x127002)
end
def land_Shift.f (k : Nat) (a0_0 : Int) (a0_1 : Int) (l0_2 : List Int) (a1 : Int) (a2 : Int) (a3 : Bool) (l4 : List Int) : Option (Int × Int × List Int × (List (S36)) × Int × Int) := (land_Validate.f k a0_0 a0_1 l0_2).bind fun t121 => (if t121 = 0 then (if a1 < 0 then (land_Shift.j0 k a1 a2 a3 l4 true a0_0 a0_1 l0_2) else (if a1 > a0_0 then (land_Shift.j0 k a1 a2 a3 l4 true a0_0 a0_1 l0_2) else (if a2 < 0 then (land_Shift.j0 k a1 a2 a3 l4 true a0_0 a0_1 l0_2) else (land_Shift.j0 k a1 a2 a3 l4 (decide (a2 > a0_1)) a0_0 a0_1 l0_2)))) else (some (0, 0, ([] : List Int), ([] : List (S36)), 0, t121)))
theorem land_Shift.mono_l : ∀ k, (∀ y0 y1 y2 y3 y4 y5 y6 y7, LeO (land_Shift.j0 k y0 y1 y2 y3 y4 y5 y6 y7) (land_Shift.j0 (k + 1) y0 y1 y2 y3 y4 y5 y6 y7)) ∧ (∀ y0 y1 y2 y3 y4 y5 y6 y7, LeO (land_Shift.j1 k y0 y1 y2 y3 y4 y5 y6 y7) (land_Shift.j1 (k + 1) y0 y1 y2 y3 y4 y5 y6 y7)) ∧ (∀ y0 y1 y2 y3 y4 y5 y6 y7 y8, LeO (land_Shift.j2 k y0 y1 y2 y3 y4 y5 y6 y7 y8) (land_Shift.j2 (k + 1) y0 y1 y2 y3 y4 y5 y6 y7 y8)) ∧ (∀ y0 y1 y2 y3 y4 y5 y6 y7 y8 y9 y10 y11 y12 y13 y14 y15, LeO (land_Shift.l0 k y0 y1 y2 y3 y4 y5 y6 y7 y8 y9 y10 y11 y12 y13 y14 y15) (land_Shift.l0 (k + 1) y0 y1 y2 y3 y4 y5 y6 y7 y8 y9 y10 y11 y12 y13 y14 y15)) ∧ (∀ y0 y1 y2 y3 y4 y5 y6 y7 y8 y9 y10 y11 y12 y13 y14 y15 y16 y17 y18 y19 y20, LeO (land_Shift.j4 k y0 y1 y2 y3 y4 y5 y6 y7 y8 y9 y10 y11 y12 y13 y14 y15 y16 y17 y18 y19 y20) (land_Shift.j4 (k + 1) y0 y1 y2 y3 y4 y5 y6 y7 y8 y9 y10 y11 y12 y13 y14 y15 y16 y17 y18 y19 y20)) ∧ (∀ y0 y1 y2 y3 y4 y5 y6 y7 y8 y9 y10, LeO (land_Shift.l1 k y0 y1 y2 y3 y4 y5 y6 y7 y8 y9 y10) (land_Shift.l1 (k + 1) y0 y1 y2 y3 y4 y5 y6 y7 y8 y9 y10)) ∧ (∀ y0 y1 y2 y3 y4 y5 y6 y7 y8 y9 y10 y11, LeO (land_Shift.j6 k y0 y1 y2 y3 y4 y5 y6 y7 y8 y9 y10 y11) (land_Shift.j6 (k + 1) y0 y1 y2 y3 y4 y5 y6 y7 y8 y9 y10 y11))
  | 0 => ⟨fun _ _ _ _ _ _ _ _ r h => by simp [land_Shift.j0] at h, fun _ _ _ _ _ _ _ _ r h => by simp [land_Shift.j1] at h, fun _ _ _ _ _ _ _ _ _ r h => by simp [land_Shift.j2] at h, fun _ _ _ _ _ _ _ _ _ _ _ _ _ _ _ _ r h => by simp [land_Shift.l0] at h, fun _ _ _ _ _ _ _ _ _ _ _ _ _ _ _ _ _ _ _ _ _ r h => by simp [land_Shift.j4] at h, fun _ _ _ _ _ _ _ _ _ _ _ r h => by simp [land_Shift.l1] at h, fun _ _ _ _ _ _ _ _ _ _ _ _ r h => by simp [land_Shift.j6] at h⟩
  | k + 1 => by
    obtain ⟨ih0, ih1, ih2, ih3, ih4, ih5, ih6⟩ := land_Shift.mono_l k
    refine ⟨?_, ?_, ?_, ?_, ?_, ?_, ?_⟩
    · intro y0 y1 y2 y3 y4 y5 y6 y7
      unfold land_Shift.j0
      repeat' first
      | (with_reducible first | exact ih0 _ _ _ _ _ _ _ _ | exact ih1 _ _ _ _ _ _ _ _ | exact ih2 _ _ _ _ _ _ _ _ _ | exact ih3 _ _ _ _ _ _ _ _ _ _ _ _ _ _ _ _ | exact ih4 _ _ _ _ _ _ _ _ _ _ _ _ _ _ _ _ _ _ _ _ _ | exact ih5 _ _ _ _ _ _ _ _ _ _ _ | exact ih6 _ _ _ _ _ _ _ _ _ _ _ _ | exact land_Validate.mono _ _ _ _ | exact LeO.refl _ | exact LeO.none _ | refine LeO.ite ?_ ?_ | refine LeO.bind ?_ (fun _ => ?_))
      | exact ih0 _ _ _ _ _ _ _ _
      | exact ih1 _ _ _ _ _ _ _ _
      | exact ih2 _ _ _ _ _ _ _ _ _
      | exact ih3 _ _ _ _ _ _ _ _ _ _ _ _ _ _ _ _
      | exact ih4 _ _ _ _ _ _ _ _ _ _ _ _ _ _ _ _ _ _ _ _ _
      | exact ih5 _ _ _ _ _ _ _ _ _ _ _
      | exact ih6 _ _ _ _ _ _ _ _ _ _ _ _
      | exact land_Validate.mono _ _ _ _
      | exact LeO.none _
      | refine LeO.ite ?_ ?_
      | refine LeO.bind ?_ (fun _ => ?_)
    · intro y0 y1 y2 y3 y4 y5 y6 y7
      unfold land_Shift.j1
      repeat' first
      | (with_reducible first | exact ih0 _ _ _ _ _ _ _ _ | exact ih1 _ _ _ _ _ _ _ _ | exact ih2 _ _ _ _ _ _ _ _ _ | exact ih3 _ _ _ _ _ _ _ _ _ _ _ _ _ _ _ _ | exact ih4 _ _ _ _ _ _ _ _ _ _ _ _ _ _ _ _ _ _ _ _ _ | exact ih5 _ _ _ _ _ _ _ _ _ _ _ | exact ih6 _ _ _ _ _ _ _ _ _ _ _ _ | exact land_Validate.mono _ _ _ _ | exact LeO.refl _ | exact LeO.none _ | refine LeO.ite ?_ ?_ | refine LeO.bind ?_ (fun _ => ?_))
      | exact ih0 _ _ _ _ _ _ _ _
      | exact ih1 _ _ _ _ _ _ _ _
      | exact ih2 _ _ _ _ _ _ _ _ _
      | exact ih3 _ _ _ _ _ _ _ _ _ _ _ _ _ _ _ _
      | exact ih4 _ _ _ _ _ _ _ _ _ _ _ _ _ _ _ _ _ _ _ _ _
      | exact ih5 _ _ _ _ _ _ _ _ _ _ _
      | exact ih6 _ _ _ _ _ _ _ _ _ _ _ _
      | exact land_Validate.mono _ _ _ _
      | exact LeO.none _
      | refine LeO.ite ?_ ?_
      | refine LeO.bind ?_ (fun _ => ?_)
    · intro y0 y1 y2 y3 y4 y5 y6 y7 y8
      unfold land_Shift.j2
      repeat' first
      | (with_reducible first | exact ih0 _ _ _ _ _ _ _ _ | exact ih1 _ _ _ _ _ _ _ _ | exact ih2 _ _ _ _ _ _ _ _ _ | exact ih3 _ _ _ _ _ _ _ _ _ _ _ _ _ _ _ _ | exact ih4 _ _ _ _ _ _ _ _ _ _ _ _ _ _ _ _ _ _ _ _ _ | exact ih5 _ _ _ _ _ _ _ _ _ _ _ | exact ih6 _ _ _ _ _ _ _ _ _ _ _ _ | exact land_Validate.mono _ _ _ _ | exact LeO.refl _ | exact LeO.none _ | refine LeO.ite ?_ ?_ | refine LeO.bind ?_ (fun _ => ?_))
      | exact ih0 _ _ _ _ _ _ _ _
      | exact ih1 _ _ _ _ _ _ _ _
      | exact ih2 _ _ _ _ _ _ _ _ _
      | exact ih3 _ _ _ _ _ _ _ _ _ _ _ _ _ _ _ _
      | exact ih4 _ _ _ _ _ _ _ _ _ _ _ _ _ _ _ _ _ _ _ _ _
      | exact ih5 _ _ _ _ _ _ _ _ _ _ _
      | exact ih6 _ _ _ _ _ _ _ _ _ _ _ _
      | exact land_Validate.mono _ _ _ _
      | exact LeO.none _
      | refine LeO.ite ?_ ?_
      | refine LeO.bind ?_ (fun _ => ?_)
    · intro y0 y1 y2 y3 y4 y5 y6 y7 y8 y9 y10 y11 y12 y13 y14 y15
      unfold land_Shift.l0
      repeat' first
      | (with_reducible first | exact ih0 _ _ _ _ _ _ _ _ | exact ih1 _ _ _ _ _ _ _ _ | exact ih2 _ _ _ _ _ _ _ _ _ | exact ih3 _ _ _ _ _ _ _ _ _ _ _ _ _ _ _ _ | exact ih4 _ _ _ _ _ _ _ _ _ _ _ _ _ _ _ _ _ _ _ _ _ | exact ih5 _ _ _ _ _ _ _ _ _ _ _ | exact ih6 _ _ _ _ _ _ _ _ _ _ _ _ | exact land_Validate.mono _ _ _ _ | exact LeO.refl _ | exact LeO.none _ | refine LeO.ite ?_ ?_ | refine LeO.bind ?_ (fun _ => ?_))
      | exact ih0 _ _ _ _ _ _ _ _
      | exact ih1 _ _ _ _ _ _ _ _
      | exact ih2 _ _ _ _ _ _ _ _ _
      | exact ih3 _ _ _ _ _ _ _ _ _ _ _ _ _ _ _ _
      | exact ih4 _ _ _ _ _ _ _ _ _ _ _ _ _ _ _ _ _ _ _ _ _
      | exact ih5 _ _ _ _ _ _ _ _ _ _ _
      | exact ih6 _ _ _ _ _ _ _ _ _ _ _ _
      | exact land_Validate.mono _ _ _ _
      | exact LeO.none _
      | refine LeO.ite ?_ ?_
      | refine LeO.bind ?_ (fun _ => ?_)
    · intro y0 y1 y2 y3 y4 y5 y6 y7 y8 y9 y10 y11 y12 y13 y14 y15 y16 y17 y18 y19 y20
      unfold land_Shift.j4
      repeat' first
      | (with_reducible first | exact ih0 _ _ _ _ _ _ _ _ | exact ih1 _ _ _ _ _ _ _ _ | exact ih2 _ _ _ _ _ _ _ _ _ | exact ih3 _ _ _ _ _ _ _ _ _ _ _ _ _ _ _ _ | exact ih4 _ _ _ _ _ _ _ _ _ _ _ _ _ _ _ _ _ _ _ _ _ | exact ih5 _ _ _ _ _ _ _ _ _ _ _ | exact ih6 _ _ _ _ _ _ _ _ _ _ _ _ | exact land_Validate.mono _ _ _ _ | exact LeO.refl _ | exact LeO.none _ | refine LeO.ite ?_ ?_ | refine LeO.bind ?_ (fun _ => ?_))
      | exact ih0 _ _ _ _ _ _ _ _
      | exact ih1 _ _ _ _ _ _ _ _
      | exact ih2 _ _ _ _ _ _ _ _ _
      | exact ih3 _ _ _ _ _ _ _ _ _ _ _ _ _ _ _ _
      | exact ih4 _ _ _ _ _ _ _ _ _ _ _ _ _ _ _ _ _ _ _ _ _
      | exact ih5 _ _ _ _ _ _ _ _ _ _ _
      | exact ih6 _ _ _ _ _ _ _ _ _ _ _ _
      | exact land_Validate.mono _ _ _ _
      | exact LeO.none _
      | refine LeO.ite ?_ ?_
      | refine LeO.bind ?_ (fun _ => ?_)
    · intro y0 y1 y2 y3 y4 y5 y6 y7 y8 y9 y10
      unfold land_Shift.l1
      repeat' first
      | (with_reducible first | exact ih0 _ _ _ _ _ _ _ _ | exact ih1 _ _ _ _ _ _ _ _ | exact ih2 _ _ _ _ _ _ _ _ _ | exact ih3 _ _ _ _ _ _ _ _ _ _ _ _ _ _ _ _ | exact ih4 _ _ _ _ _ _ _ _ _ _ _ _ _ _ _ _ _ _ _ _ _ | exact ih5 _ _ _ _ _ _ _ _ _ _ _ | exact ih6 _ _ _ _ _ _ _ _ _ _ _ _ | exact land_Validate.mono _ _ _ _ | exact LeO.refl _ | exact LeO.none _ | refine LeO.ite ?_ ?_ | refine LeO.bind ?_ (fun _ => ?_))
      | exact ih0 _ _ _ _ _ _ _ _
      | exact ih1 _ _ _ _ _ _ _ _
      | exact ih2 _ _ _ _ _ _ _ _ _
      | exact ih3 _ _ _ _ _ _ _ _ _ _ _ _ _ _ _ _
      | exact ih4 _ _ _ _ _ _ _ _ _ _ _ _ _ _ _ _ _ _ _ _ _
      | exact ih5 _ _ _ _ _ _ _ _ _ _ _
      | exact ih6 _ _ _ _ _ _ _ _ _ _ _ _
      | exact land_Validate.mono _ _ _ _
      | exact LeO.none _
      | refine LeO.ite ?_ ?_
      | refine LeO.bind ?_ (fun _ => ?_)
    · intro y0 y1 y2 y3 y4 y5 y6 y7 y8 y9 y10 y11
      unfold land_Shift.j6
      repeat' first
      | (with_reducible first | exact ih0 _ _ _ _ _ _ _ _ | exact ih1 _ _ _ _ _ _ _ _ | exact ih2 _ _ _ _ _ _ _ _ _ | exact ih3 _ _ _ _ _ _ _ _ _ _ _ _ _ _ _ _ | exact ih4 _ _ _ _ _ _ _ _ _ _ _ _ _ _ _ _ _ _ _ _ _ | exact ih5 _ _ _ _ _ _ _ _ _ _ _ | exact ih6 _ _ _ _ _ _ _ _ _ _ _ _ | exact land_Validate.mono _ _ _ _ | exact LeO.refl _ | exact LeO.none _ | refine LeO.ite ?_ ?_ | refine LeO.bind ?_ (fun _ => ?_))
      | exact ih0 _ _ _ _ _ _ _ _
      | exact ih1 _ _ _ _ _ _ _ _
      | exact ih2 _ _ _ _ _ _ _ _ _
      | exact ih3 _ _ _ _ _ _ _ _ _ _ _ _ _ _ _ _
      | exact ih4 _ _ _ _ _ _ _ _ _ _ _ _ _ _ _ _ _ _ _ _ _
      | exact ih5 _ _ _ _ _ _ _ _ _ _ _
      | exact ih6 _ _ _ _ _ _ _ _ _ _ _ _
      | exact land_Validate.mono _ _ _ _
      | exact LeO.none _
      | refine LeO.ite ?_ ?_
      | refine LeO.bind ?_ (fun _ => ?_)
theorem land_Shift.mono : ∀ a0 a1 a2 a3 a4 a5 a6 k, LeO (land_Shift.f k a0 a1 a2 a3 a4 a5 a6) (land_Shift.f (k + 1) a0 a1 a2 a3 a4 a5 a6) := by
  intro a0 a1 a2 a3 a4 a5 a6 k
  obtain ⟨ih0, ih1, ih2, ih3, ih4, ih5, ih6⟩ := land_Shift.mono_l k
  unfold land_Shift.f
  repeat' first
      | (with_reducible first | exact ih0 _ _ _ _ _ _ _ _ | exact ih1 _ _ _ _ _ _ _ _ | exact ih2 _ _ _ _ _ _ _ _ _ | exact ih3 _ _ _ _ _ _ _ _ _ _ _ _ _ _ _ _ | exact ih4 _ _ _ _ _ _ _ _ _ _ _ _ _ _ _ _ _ _ _ _ _ | exact ih5 _ _ _ _ _ _ _ _ _ _ _ | exact ih6 _ _ _ _ _ _ _ _ _ _ _ _ | exact land_Validate.mono _ _ _ _ | exact LeO.refl _ | exact LeO.none _ | refine LeO.ite ?_ ?_ | refine LeO.bind ?_ (fun _ => ?_))
      | exact ih0 _ _ _ _ _ _ _ _
      | exact ih1 _ _ _ _ _ _ _ _
      | exact ih2 _ _ _ _ _ _ _ _ _
      | exact ih3 _ _ _ _ _ _ _ _ _ _ _ _ _ _ _ _
      | exact ih4 _ _ _ _ _ _ _ _ _ _ _ _ _ _ _ _ _ _ _ _ _
      | exact ih5 _ _ _ _ _ _ _ _ _ _ _
      | exact ih6 _ _ _ _ _ _ _ _ _ _ _ _
      | exact land_Validate.mono _ _ _ _
      | exact LeO.none _
      | refine LeO.ite ?_ ?_
      | refine LeO.bind ?_ (fun _ => ?_)
def land_Shift.T11 : Bool × List (List Nat × List Nat) := (true, [([], []), ([0], [0]), ([], []), ([2], [2]), ([], []), ([4], [4]), ([5], [5]), ([1, 3, 6], [1, 3, 6]), ([], []), ([8, 7, 6, 0, 1, 2, 3, 4, 5, 6, 7, 8], [7, 8])])
def land_Shift.B11 : List Nat := [0, 1, 0, 4, 0, 16, 48, 127, 0, 511]
theorem land_Shift.tab11 : rtab .any (opsOf Try.f19 11) = land_Shift.T11 := by kernel_rfl
theorem land_Shift.bits11 : waitsOk land_Shift.T11.2 land_Shift.B11 = true := by kernel_rfl
def land_Shift.T17 : Bool × List (List Nat × List Nat) := (true, [([], []), ([], []), ([1], [1]), ([2], [2]), ([0, 3], [0, 3]), ([], []), ([], []), ([6], [6]), ([7], [7]), ([5, 8], [5, 8]), ([4, 0, 1, 2, 3, 4], [4]), ([9, 10, 0, 1, 2, 3, 4, 5, 6, 7, 8, 9, 10], [9])])
def land_Shift.B17 : List Nat := [0, 0, 2, 6, 15, 0, 0, 64, 192, 480, 31, 2047]
theorem land_Shift.tab17 : rtab .any (opsOf Try.f19 17) = land_Shift.T17 := by kernel_rfl
theorem land_Shift.bits17 : waitsOk land_Shift.T17.2 land_Shift.B17 = true := by kernel_rfl
def land_Shift.T30 : Bool × List (List Nat × List Nat) := (true, [([], []), ([], []), ([0, 1], [0, 1]), ([2, 2], [2]), ([3], [3]), ([3], [3]), ([4, 5, 3, 3], [3, 4, 5]), ([3], [3]), ([3], [3]), ([7, 8, 6, 3], [3, 7, 8]), ([6, 9, 3], [3, 6, 9]), ([3, 10], [3, 10])])
def land_Shift.B30 : List Nat := [0, 0, 3, 7, 15, 15, 63, 15, 15, 511, 1023, 2047]
theorem land_Shift.tab30 : rtab .any (opsOf Try.f19 30) = land_Shift.T30 := by kernel_rfl
theorem land_Shift.bits30 : waitsOk land_Shift.T30.2 land_Shift.B30 = true := by kernel_rfl
set_option maxHeartbeats 8000000 in
set_option maxRecDepth 100000 in
theorem land_Shift.calls (k : Nat) (a0_0 : Int) (a0_1 : Int) (A0_2 : Option Addr) (c0_2 : Nat) (l0_2 : List Int) (a1 : Int) (a2 : Int) (a3 : Bool) (A4 : Option Addr) (c4 : Nat) (l4 : List Int) (r1 : Int) (r2 : Int) (r3 : List Int) (r4 : List (S36)) (r5 : Int) (r6 : Int) (w : World) (hr0_2 : Kd.C (Kd.int .i64) w A0_2 l0_2.length l0_2) (hc0_2 : l0_2.length ≤ c0_2) (hr4 : Kd.C (Kd.int .i64) w A4 l4.length l4) (hc4 : l4.length ≤ c4) (h : land_Shift.f k a0_0 a0_1 l0_2 a1 a2 a3 l4 = some (r1, r2, r3, r4, r5, r6)) :
    Calls Try.prog 19 #[.agg #[.int .i64 a0_0, .int .i64 a0_1, .slice A0_2 l0_2.length c0_2], .int .i64 a1, .int .i64 a2, .bool a3, .slice A4 l4.length c4] w fun e w' => ∃ v2_ v3_ : Value, e = .returned (.tuple #[.agg #[.int .i64 r1, .int .i64 r2, v2_], v3_, .int .i64 r5, .int .i64 r6]) ∧ Kd.R (Kd.int .i64) 3 w' w.heap.size (fun _ => True) v2_ r3 ∧ Kd.R k36 36 w' w.heap.size (fun _ => True) v3_ r4 ∧ Below w.heap.size w w' := by
 have hu24 := Try.underlying24
 have hu36 := Try.underlying36
 have HR0_2 := Aside0.mk hr0_2
 have HC0_2 := Aside0.mk hc0_2
 clear hr0_2 hc0_2
 have HR4 := Aside0.mk hr4
 have HC4 := Aside0.mk hc4
 clear hr4 hc4
 have HB := Aside0.mk (Below.refl w.heap.size w)
 have H : ((land_Validate.f k a0_0 a0_1 l0_2).bind fun t121 => (if t121 = 0 then (if a1 < 0 then (land_Shift.j0 k a1 a2 a3 l4 true a0_0 a0_1 l0_2) else (if a1 > a0_0 then (land_Shift.j0 k a1 a2 a3 l4 true a0_0 a0_1 l0_2) else (if a2 < 0 then (land_Shift.j0 k a1 a2 a3 l4 true a0_0 a0_1 l0_2) else (land_Shift.j0 k a1 a2 a3 l4 (decide (a2 > a0_1)) a0_0 a0_1 l0_2)))) else (some (0, 0, ([] : List Int), ([] : List (S36)), 0, t121)))) = some (r1, r2, r3, r4, r5, r6) := h
 clear h
 replace H := Option.bind_eq_some_iff.mp H
 obtain ⟨t121, A60, H⟩ := H
 replace H : (if t121 = 0 then (if a1 < 0 then (land_Shift.j0 k a1 a2 a3 l4 true a0_0 a0_1 l0_2) else (if a1 > a0_0 then (land_Shift.j0 k a1 a2 a3 l4 true a0_0 a0_1 l0_2) else (if a2 < 0 then (land_Shift.j0 k a1 a2 a3 l4 true a0_0 a0_1 l0_2) else (land_Shift.j0 k a1 a2 a3 l4 (decide (a2 > a0_1)) a0_0 a0_1 l0_2)))) else (some (0, 0, ([] : List Int), ([] : List (S36)), 0, t121))) = some (r1, r2, r3, r4, r5, r6) := H
 have A6 := Aside0.mk A60
 clear A60
 by_cases c7 : t121 = 0
 ·rw [if_pos c7] at H
  have c7b0 : (t121 == 0) = true := beq_iff_eq.mpr c7
  have c7b1 : (t121 != 0) = false := bne_eq_false_iff_eq.mpr c7
  clear c7
  have HC8 := Aside0.mk H
  clear H
  go_enter Try.func19, Try.ntmps19
  go_upto_region 4 with (first | ((with_reducible refine gate_dst (N := 5) rfl ?_); refine box_event ?hg (N := 5) ?hd (cs := #[.int .i64 a0_0, .int .i64 a0_1, .slice A0_2 l0_2.length c0_2]) (t := 24) ?hr ?_; (case hd => rfl); (case hg => rfl); (case hr => first | (go_simp; done) | (go_simp; rfl)); intro gb119 hg w9 hbox hb; have BK119 := Aside0.mk (hbox); have GW119 := Aside0.mk ((dS_ hg (dL_ HB) : w.heap.size ≤ gb119)); have GE119 := Aside0.mk ((dS_ hg (dL_ HB) : w.heap.size ≤ gb119)); replace HB := Aside0.mk (below_step (dL_ HB) hb); clear hb hbox hg) | ((with_reducible refine gate_dst (N := 10) rfl ?_); refine box_event ?hg (N := 10) ?hd (cs := #[.int .i64 0, .int .i64 0, .slice none 0 0]) (t := 24) ?hr ?_; (case hd => rfl); (case hg => rfl); (case hr => first | (go_simp; done) | (go_simp; rfl)); intro gb120 hg w10 hbox hb; have BK120 := Aside0.mk (hbox); have GW120 := Aside0.mk ((dS_ hg (dL1_ HB GE119) : w.heap.size ≤ gb120)); have GE120 := Aside0.mk ((dS_ hg (dL1_ HB GE119) : w.heap.size ≤ gb120)); replace HB := Aside0.mk (below_step (dL1_ HB GE119) hb); have NB119_120 := Aside0.mk ((by rw [hg]; exact Nat.ne_of_lt (blk_lt (dB_ BK119)) : gb119 ≠ gb120)); have NB120_119 := Aside0.mk ((by rw [hg]; exact Nat.ne_of_gt (blk_lt (dB_ BK119)) : gb120 ≠ gb119)); replace BK119 := Aside0.mk (blk_below (g := gb119) (o := .cells #[.int .i64 a0_0, .int .i64 a0_1, .slice A0_2 l0_2.length c0_2] 24 (0, 0)) (dB_ BK119) hb); clear hb hbox hg; have hnb11 := NB119_120.out; have hnc11 := NB120_119.out; obtain ⟨hcz12_0, hcz12_1, hcz12_2, hfz12_0, hfz12_1, hfz12_2⟩ := cs3_ BK119.out) | ((with_reducible refine gate_callee (f := 17) rfl ?_); refine goesL_ (some 27) rfl rfl Try.func17 (by kernel_rfl) rfl #[.agg #[.int .i64 a0_0, .int .i64 a0_1, .slice A0_2 l0_2.length c0_2]] rfl tA_ ?_; (with_reducible refine (land_Validate.calls k a0_0 a0_1 _ _ l0_2 t121 _ ?side1 ?side2 A6.out).mono ?_); (case side1 => exact dC_ HR0_2 HB); (case side2 => exact HC0_2.out); rintro e w13 ⟨rfl, hb⟩; refine ⟨_, rfl, ?_⟩; replace BK119 := Aside0.mk (blk_below (g := gb119) (o := .cells #[.int .i64 a0_0, .int .i64 a0_1, .slice A0_2 l0_2.length c0_2] 24 (0, 0)) (dB_ BK119) hb); replace BK120 := Aside0.mk (blk_below (g := gb120) (o := .cells #[.int .i64 0, .int .i64 0, .slice none 0 0] 24 (0, 0)) (dB_ BK120) hb); replace HB := Aside0.mk (below_step (dL2_ HB GE119 GE120) hb)))
  (try simp only [Act.put, sI_, s0_, sS_])
  go_cut [49] (fun v49 wc => ∃ (kq : Nat) (x49_7 : Bool), v49 = .bool x49_7 ∧ Aside0 (land_Shift.j0 kq a1 a2 a3 l4 x49_7 a0_0 a0_1 l0_2 = some (r1, r2, r3, r4, r5, r6)) ∧ Aside0 (kq ≤ k) ∧ Aside0 (wc.heap[gb119]? = some (.cells #[.int .i64 a0_0, .int .i64 a0_1, (.slice A0_2 l0_2.length c0_2)] 24 (0, 0))) ∧ Aside0 (wc.heap[gb120]? = some (.cells #[.int .i64 0, .int .i64 0, (.slice none 0 0)] 24 (0, 0))) ∧ Aside0 (Below w.heap.size w wc))
  case first =>
   have H := HC8.out
   clear HC8
   by_cases c14 : a1 < 0
   ·rw [if_pos c14] at H
    have c14b0 : decide (a1 < 0) = true := decide_eq_true c14
    clear c14
    (first | rw [c14b0] | (simp only [i64_w, i32_w]; rw [c14b0]) | skip)
    have H' := Aside0.mk H
    clear H
    go_wp2
    go_meet
    case rel => exact ⟨_, (true), tS_, H', ⟨by first | omega | exact Nat.le_refl _⟩, ⟨dB_ BK119⟩, ⟨dB_ BK120⟩, ⟨dL2_ HB GE119 GE120⟩⟩
   ·rw [if_neg c14] at H
    have c14b0 : decide (a1 < 0) = false := decide_eq_false c14
    clear c14
    (first | rw [c14b0] | (simp only [i64_w, i32_w]; rw [c14b0]) | skip)
    by_cases c15 : a1 > a0_0
    ·rw [if_pos c15] at H
     have c15b0 : decide (a0_0 < a1) = true := decide_eq_true c15
     clear c15
     have H' := Aside0.mk H
     clear H
     have hnb16 := NB119_120.out
     have hnc16 := NB120_119.out
     obtain ⟨hcz17_0, hcz17_1, hcz17_2, hfz17_0, hfz17_1, hfz17_2⟩ := cs3_ BK119.out
     go_wp2
     go_meet
     case rel => exact ⟨_, (true), tS_, H', ⟨by first | omega | exact Nat.le_refl _⟩, ⟨dB_ BK119⟩, ⟨dB_ BK120⟩, ⟨dL2_ HB GE119 GE120⟩⟩
    ·rw [if_neg c15] at H
     have c15b0 : decide (a0_0 < a1) = false := decide_eq_false c15
     clear c15
     by_cases c18 : a2 < 0
     ·rw [if_pos c18] at H
      have c18b0 : decide (a2 < 0) = true := decide_eq_true c18
      clear c18
      have H' := Aside0.mk H
      clear H
      have hnb19 := NB119_120.out
      have hnc19 := NB120_119.out
      obtain ⟨hcz20_0, hcz20_1, hcz20_2, hfz20_0, hfz20_1, hfz20_2⟩ := cs3_ BK119.out
      go_wp2
      go_meet
      case rel => exact ⟨_, (true), tS_, H', ⟨by first | omega | exact Nat.le_refl _⟩, ⟨dB_ BK119⟩, ⟨dB_ BK120⟩, ⟨dL2_ HB GE119 GE120⟩⟩
     ·rw [if_neg c18] at H
      have c18b0 : decide (a2 < 0) = false := decide_eq_false c18
      clear c18
      have H' := Aside0.mk H
      clear H
      have hnb21 := NB119_120.out
      have hnc21 := NB120_119.out
      obtain ⟨hcz22_0, hcz22_1, hcz22_2, hfz22_0, hfz22_1, hfz22_2⟩ := cs3_ BK119.out
      go_wp2
      go_meet
      case rel => exact ⟨_, (decide (a2 > a0_1)), tS_, H', ⟨by first | omega | exact Nat.le_refl _⟩, ⟨dB_ BK119⟩, ⟨dB_ BK120⟩, ⟨dL2_ HB GE119 GE120⟩⟩
  case rest =>
   clear HC8
   try clear c4
   try clear c7
   try clear c7b0
   try clear c7b1
   try clear c14
   try clear c15
   try clear c18
   try clear hcz12_0
   try clear hcz12_1
   try clear hcz12_2
   try clear hfz12_0
   try clear hfz12_1
   try clear hfz12_2
   obtain ⟨kq, x49_7, rfl, HA, HJ7, BK119, BK120, HB⟩ := hcut
   cases kq with
   | zero => exact absurd HA.out (by simp [land_Shift.j0])
   | succ kj7 =>
    have H := HA.out
    clear HA
    simp only [land_Shift.j0] at H
    by_cases c23 : x49_7 = true
    ·subst c23
     have H1 : (some (0, 0, ([] : List Int), ([] : List (S36)), 0, 2)) = some (r1, r2, r3, r4, r5, r6) := by rw [if_pos rfl] at H; exact H
     clear H
     have H := H1
     clear H1
     simp only [Option.some.injEq, Prod.mk.injEq] at H
     obtain ⟨rfl, rfl, rfl, rfl, rfl, rfl⟩ := H
     have hnb24 := NB120_119.out
     have hnc24 := NB119_120.out
     obtain ⟨hcz25_0, hcz25_1, hcz25_2, hfz25_0, hfz25_1, hfz25_2⟩ := cs3_ BK120.out
     go_wp2
     refine bodyPost_ret (results_list (rs := [.cell 10 24, .tmp 11, .tmp 12, .tmp 13]) rfl (by simp) (.cell gb120 24 #[.int .i64 0, .int .i64 0, .slice none 0 0] (0, 0) _ rfl (by (with_reducible repeat (first | refine blk_drewN ?_ _ | refine blk_drew ?_ | refine blk_alloc ?_ _)); refine blk_put (cs := #[.int .i64 0, .int .i64 0, .slice none 0 0]) ?_ 2 _ rfl; (with_reducible repeat (first | refine blk_drewN ?_ _ | refine blk_drew ?_ | refine blk_alloc ?_ _)); refine blk_put (cs := #[.int .i64 0, .int .i64 0, .slice none 0 0]) ?_ 1 _ rfl; (with_reducible repeat (first | refine blk_drewN ?_ _ | refine blk_drew ?_ | refine blk_alloc ?_ _)); refine blk_put (cs := #[.int .i64 0, .int .i64 0, .slice none 0 0]) ?_ 0 _ rfl; (with_reducible repeat (first | refine blk_drewN ?_ _ | refine blk_drew ?_ | refine blk_alloc ?_ _)); exact BK120.out) Try.underlying24 rfl (by kernel_rfl) (.tmp (.tmp (.tmp .nil))))) rfl ?_
     exact ⟨_, _, tE_, by first | exact Kd.R_nil _ _ _ _ _ | exact Kd.N_nil _ _ _ _ _ | exact Kd.V_nil _ _ _ _ _ | exact Kd.Q_nil _ _ _ _ _ | exact Kd.S_nil _ _ _ _ _, by first | exact Kd.R_nil _ _ _ _ _ | exact Kd.N_nil _ _ _ _ _ | exact Kd.V_nil _ _ _ _ _ | exact Kd.Q_nil _ _ _ _ _ | exact Kd.S_nil _ _ _ _ _, dL2_ HB GE119 GE120⟩
    ·replace c23 := Bool.eq_false_iff.mpr c23
     subst c23
     have H1 : (if 0 ≤ (wrap64 ((wrap64 (a2 * (wrap64 (a0_0 + 1)))) + a1)) then (if (wrap64 ((wrap64 (a2 * (wrap64 (a0_0 + 1)))) + a1)) < (l0_2.length : Int) then (if a3 = true then (land_Shift.j1 kj7 a1 a2 a3 l4 (wrap64 ((wrap64 ((rd l0_2 (wrap64 ((wrap64 (a2 * (wrap64 (a0_0 + 1)))) + a1))) - 1)) + 2)) a0_0 a0_1 l0_2) else (land_Shift.j1 kj7 a1 a2 a3 l4 (wrap64 ((rd l0_2 (wrap64 ((wrap64 (a2 * (wrap64 (a0_0 + 1)))) + a1))) - 1)) a0_0 a0_1 l0_2)) else (none)) else (none)) = some (r1, r2, r3, r4, r5, r6) := by rw [if_neg (show ¬ (false = true) by decide)] at H; exact H
     clear H
     have H := H1
     clear H1
     obtain ⟨ji26, hji26⟩ : ∃ j_ : Int, (wrap64 ((wrap64 (a2 * (wrap64 (a0_0 + 1)))) + a1)) = j_ := ⟨_, rfl⟩
     replace H : (if 0 ≤ (ji26) then (if (ji26) < (l0_2.length : Int) then (if a3 = true then (land_Shift.j1 kj7 a1 a2 a3 l4 (wrap64 ((wrap64 ((rd l0_2 (ji26)) - 1)) + 2)) a0_0 a0_1 l0_2) else (land_Shift.j1 kj7 a1 a2 a3 l4 (wrap64 ((rd l0_2 (ji26)) - 1)) a0_0 a0_1 l0_2)) else (none)) else (none)) = some (r1, r2, r3, r4, r5, r6) := by first | (rw [hji26] at H; exact H) | (simp only [hji26] at H ⊢; exact H)
     have hji26w : (IntKind.i64.wrap ((wrap64 (a2 * (wrap64 (a0_0 + 1)))) + a1)) = ji26 := (i64_w _).trans hji26
     by_cases c27 : 0 ≤ (ji26)
     ·rw [if_pos c27] at H
      have c27b0 : decide (0 ≤ (ji26)) = true := decide_eq_true c27
      clear c27
      by_cases c28 : (ji26) < (l0_2.length : Int)
      ·rw [if_pos c28] at H
       have c28b0 : decide ((ji26) < (l0_2.length : Int)) = true := decide_eq_true c28
       clear c28
       have HC29 := Aside0.mk H
       clear H
       have hnb30 := NB119_120.out
       have hnc30 := NB120_119.out
       obtain ⟨hcz31_0, hcz31_1, hcz31_2, hfz31_0, hfz31_1, hfz31_2⟩ := cs3_ BK119.out
       have p122 : 0 ≤ ((ji26) : Int) := of_decide_eq_true tW_
       have q122 : (ji26) < (l0_2.length : Int) := of_decide_eq_true tW_
       obtain ⟨ad122, e122, hx122_0⟩ := Kd.at_int HR0_2.out (ji26) p122 q122
       cases e122
       replace hx122_0 := bc_ HB hx122_0
       replace p122 := eq_true p122
       replace q122 := eq_true q122
       go_upto_if 63 with (fail)
       go_cut [15] (fun v15 wc => ∃ (kq : Nat) (x15_28 : Int), v15 = .int .i64 x15_28 ∧ Aside0 (land_Shift.j1 kq a1 a2 a3 l4 x15_28 a0_0 a0_1 l0_2 = some (r1, r2, r3, r4, r5, r6)) ∧ Aside0 (kq ≤ kj7) ∧ Aside0 (wc.heap[gb119]? = some (.cells #[.int .i64 a0_0, .int .i64 a0_1, (.slice (some ad122) l0_2.length c0_2)] 24 (0, 0))) ∧ Aside0 (wc.heap[gb120]? = some (.cells #[.int .i64 0, .int .i64 0, (.slice none 0 0)] 24 (0, 0))) ∧ Aside0 (Below w.heap.size w wc))
       case first =>
        have H := HC29.out
        clear HC29
        by_cases c32 : a3 = true
        ·subst c32
         have H1 : (land_Shift.j1 kj7 a1 a2 true l4 (wrap64 ((wrap64 ((rd l0_2 (ji26)) - 1)) + 2)) a0_0 a0_1 l0_2) = some (r1, r2, r3, r4, r5, r6) := by rw [if_pos rfl] at H; exact H
         clear H
         have H := H1
         clear H1
         have H' := Aside0.mk H
         clear H
         go_wp2
         go_meet
         case rel => exact ⟨_, (wrap64 ((wrap64 ((rd l0_2 (ji26)) - 1)) + 2)), (by first | rfl | (simp; done) | (simp only [← hji26]; rw [shl_one_small _ (by assumption) (by omega)]; done) | (simp only [← hji26] <;> (first | rfl | simp)) | (simp [*]; done) | (refine congrArg (Value.int .i64) ?_; unfold wrap64; omega) | (simp only [shl_one_small _ (by assumption) (by omega)]; done) | (simp [*]; rw [shl_one_small _ (by assumption) (by omega)]; done)), H', ⟨by have := HJ7.out; first | omega | exact Nat.le_refl _⟩, ⟨dB_ BK119⟩, ⟨dB_ BK120⟩, ⟨dL2_ HB GE119 GE120⟩⟩
        ·replace c32 := Bool.eq_false_iff.mpr c32
         subst c32
         have H1 : (land_Shift.j1 kj7 a1 a2 false l4 (wrap64 ((rd l0_2 (ji26)) - 1)) a0_0 a0_1 l0_2) = some (r1, r2, r3, r4, r5, r6) := by rw [if_neg (show ¬ (false = true) by decide)] at H; exact H
         clear H
         have H := H1
         clear H1
         have H' := Aside0.mk H
         clear H
         go_wp2
         go_meet
         case rel => exact ⟨_, (wrap64 ((rd l0_2 (ji26)) - 1)), (by first | rfl | (simp; done) | (simp only [← hji26]; rw [shl_one_small _ (by assumption) (by omega)]; done) | (simp only [← hji26] <;> (first | rfl | simp)) | (simp [*]; done) | (refine congrArg (Value.int .i64) ?_; unfold wrap64; omega) | (simp only [shl_one_small _ (by assumption) (by omega)]; done) | (simp [*]; rw [shl_one_small _ (by assumption) (by omega)]; done)), H', ⟨by have := HJ7.out; first | omega | exact Nat.le_refl _⟩, ⟨dB_ BK119⟩, ⟨dB_ BK120⟩, ⟨dL2_ HB GE119 GE120⟩⟩
       case rest =>
        clear HC29
        try clear c4
        try clear c7
        try clear c7b0
        try clear c7b1
        try clear c14
        try clear c15
        try clear c18
        try clear c23
        try clear c27
        try clear c27b0
        try clear c28
        try clear c28b0
        try clear hcz12_0
        try clear hcz12_1
        try clear hcz12_2
        try clear hcz31_0
        try clear hcz31_1
        try clear hcz31_2
        try clear hfz12_0
        try clear hfz12_1
        try clear hfz12_2
        try clear hfz31_0
        try clear hfz31_1
        try clear hfz31_2
        try clear hx122_0
        try clear p122
        try clear q122
        obtain ⟨kq, x15_28, rfl, HA, HJ28, BK119, BK120, HB⟩ := hcut
        cases kq with
        | zero => exact absurd HA.out (by simp [land_Shift.j1])
        | succ kj28 =>
         have H := HA.out
         clear HA
         simp only [land_Shift.j1] at H
         have HC33 := Aside0.mk H
         clear H
         go_upto_region 9 with (fail)
         go_cut [71] (fun v71 wc => ∃ (kq : Nat) (x71_32 : Bool), v71 = .bool x71_32 ∧ Aside0 (land_Shift.j2 kq a1 a2 a3 l4 x15_28 x71_32 a0_0 a0_1 l0_2 = some (r1, r2, r3, r4, r5, r6)) ∧ Aside0 (kq ≤ kj28) ∧ Aside0 (wc.heap[gb119]? = some (.cells #[.int .i64 a0_0, .int .i64 a0_1, (.slice (some ad122) l0_2.length c0_2)] 24 (0, 0))) ∧ Aside0 (wc.heap[gb120]? = some (.cells #[.int .i64 0, .int .i64 0, (.slice none 0 0)] 24 (0, 0))) ∧ Aside0 (Below w.heap.size w wc))
         case first =>
          have H := HC33.out
          clear HC33
          by_cases c34 : x15_28 < 0
          ·rw [if_pos c34] at H
           have c34b0 : decide (x15_28 < 0) = true := decide_eq_true c34
           clear c34
           (first | rw [c34b0] | (simp only [i64_w, i32_w]; rw [c34b0]) | skip)
           have H' := Aside0.mk H
           clear H
           go_wp2
           go_meet
           case rel => exact ⟨_, (true), tS_, H', ⟨by have := HJ7.out; have := HJ28.out; first | omega | exact Nat.le_refl _⟩, ⟨dB_ BK119⟩, ⟨dB_ BK120⟩, ⟨dL2_ HB GE119 GE120⟩⟩
          ·rw [if_neg c34] at H
           have c34b0 : decide (x15_28 < 0) = false := decide_eq_false c34
           clear c34
           (first | rw [c34b0] | (simp only [i64_w, i32_w]; rw [c34b0]) | skip)
           have H' := Aside0.mk H
           clear H
           go_wp2
           go_meet
           case rel => exact ⟨_, (decide (x15_28 > 15)), tS_, H', ⟨by have := HJ7.out; have := HJ28.out; first | omega | exact Nat.le_refl _⟩, ⟨dB_ BK119⟩, ⟨dB_ BK120⟩, ⟨dL2_ HB GE119 GE120⟩⟩
         case rest =>
          clear HC33
          try clear c4
          try clear c7
          try clear c7b0
          try clear c7b1
          try clear c14
          try clear c15
          try clear c18
          try clear c23
          try clear c27
          try clear c27b0
          try clear c28
          try clear c28b0
          try clear c34
          try clear hcz12_0
          try clear hcz12_1
          try clear hcz12_2
          try clear hcz31_0
          try clear hcz31_1
          try clear hcz31_2
          try clear hfz12_0
          try clear hfz12_1
          try clear hfz12_2
          try clear hfz31_0
          try clear hfz31_1
          try clear hfz31_2
          try clear hx122_0
          try clear p122
          try clear q122
          obtain ⟨kq, x71_32, rfl, HA, HJ32, BK119, BK120, HB⟩ := hcut
          cases kq with
          | zero => exact absurd HA.out (by simp [land_Shift.j2])
          | succ kj32 =>
           have H := HA.out
           clear HA
           simp only [land_Shift.j2] at H
           by_cases c35 : x71_32 = true
           ·subst c35
            have H1 : (some (0, 0, ([] : List Int), ([] : List (S36)), 0, 6)) = some (r1, r2, r3, r4, r5, r6) := by rw [if_pos rfl] at H; exact H
            clear H
            have H := H1
            clear H1
            simp only [Option.some.injEq, Prod.mk.injEq] at H
            obtain ⟨rfl, rfl, rfl, rfl, rfl, rfl⟩ := H
            have hnb36 := NB120_119.out
            have hnc36 := NB119_120.out
            obtain ⟨hcz37_0, hcz37_1, hcz37_2, hfz37_0, hfz37_1, hfz37_2⟩ := cs3_ BK120.out
            go_wp2
            refine bodyPost_ret (results_list (rs := [.cell 10 24, .tmp 11, .tmp 12, .tmp 13]) rfl (by simp) (.cell gb120 24 #[.int .i64 0, .int .i64 0, .slice none 0 0] (0, 0) _ rfl (by (with_reducible repeat (first | refine blk_drewN ?_ _ | refine blk_drew ?_ | refine blk_alloc ?_ _)); refine blk_put (cs := #[.int .i64 0, .int .i64 0, .slice none 0 0]) ?_ 2 _ rfl; (with_reducible repeat (first | refine blk_drewN ?_ _ | refine blk_drew ?_ | refine blk_alloc ?_ _)); refine blk_put (cs := #[.int .i64 0, .int .i64 0, .slice none 0 0]) ?_ 1 _ rfl; (with_reducible repeat (first | refine blk_drewN ?_ _ | refine blk_drew ?_ | refine blk_alloc ?_ _)); refine blk_put (cs := #[.int .i64 0, .int .i64 0, .slice none 0 0]) ?_ 0 _ rfl; (with_reducible repeat (first | refine blk_drewN ?_ _ | refine blk_drew ?_ | refine blk_alloc ?_ _)); exact BK120.out) Try.underlying24 rfl (by kernel_rfl) (.tmp (.tmp (.tmp .nil))))) rfl ?_
            exact ⟨_, _, by first | rfl | (simp [errW_none, errW_some] <;> rfl) | (simp only [← hji26]; first | rfl | (simp [errW_none, errW_some] <;> rfl)) | (simp [*, errW_none, errW_some] <;> rfl), by first | exact Kd.R_nil _ _ _ _ _ | exact Kd.N_nil _ _ _ _ _ | exact Kd.V_nil _ _ _ _ _ | exact Kd.Q_nil _ _ _ _ _ | exact Kd.S_nil _ _ _ _ _, by first | exact Kd.R_nil _ _ _ _ _ | exact Kd.N_nil _ _ _ _ _ | exact Kd.V_nil _ _ _ _ _ | exact Kd.Q_nil _ _ _ _ _ | exact Kd.S_nil _ _ _ _ _, dL2_ HB GE119 GE120⟩
           ·replace c35 := Bool.eq_false_iff.mpr c35
            subst c35
            have H1 : (if ([] : List Int).length + l0_2.length < 17592186044416 then (land_Shift.l0 kj32 a1 a2 a3 l4 x15_28 ([] : List (S36)) 0 l0_2 (l0_2.length : Int) 0 a0_0 a0_1 l0_2 a0_0 a0_1 (([] : List Int) ++ l0_2)) else (none)) = some (r1, r2, r3, r4, r5, r6) := by rw [if_neg (show ¬ (false = true) by decide)] at H; exact H
            clear H
            have H := H1
            clear H1
            by_cases c38 : ([] : List Int).length + l0_2.length < 17592186044416
            ·rw [if_pos c38] at H
             have LMc38 := Aside0.mk c38
             clear c38
             obtain ⟨y123, hy123⟩ : ∃ y_ : List Int, y_ = (([] : List Int) ++ l0_2) := ⟨_, rfl⟩
             replace H : (land_Shift.l0 kj32 a1 a2 a3 l4 x15_28 ([] : List (S36)) 0 l0_2 (l0_2.length : Int) 0 a0_0 a0_1 l0_2 a0_0 a0_1 y123) = some (r1, r2, r3, r4, r5, r6) := by first | (rw [hy123]; with_reducible exact H) | (have H2_ := (Option.bind_some _ _).symm.trans H; rw [hy123]; with_reducible exact H2_) | (have H2_ := (Option.bind_some _ _).symm.trans H; with_reducible exact H2_) | with_reducible exact H | (rw [hy123]; exact H) | exact H
             have Ny123 := Aside0.mk hy123
             clear hy123
             have H' := Aside0.mk H
             clear H
             try go_wp2
             replace BK119 := Aside0.mk (blk_drew BK119.out)
             replace BK120 := Aside0.mk (blk_drew BK120.out)
             replace HB := Aside0.mk (below_drew1 HB.out)
             refine start_ (n := 10) (S := fun w' => w'.cell? ⟨gb119, 0, none⟩ = some (.int .i64 a0_0) ∧ w'.cell? ⟨gb119, 1, none⟩ = some (.int .i64 a0_1) ∧ w'.cell? ⟨gb119, 2, none⟩ = some (.slice (some ad122) l0_2.length c0_2)) (ds := []) #[false, false, false, false, false, false, false, false, false, false] (by kernel_rfl) rfl rfl ⟨(blk_cell BK119.out 0).trans rfl, (blk_cell BK119.out 1).trans rfl, (blk_cell BK119.out 2).trans rfl⟩ (fun hHeld => ?_); refine with_tabW land_Shift.tab11 land_Shift.bits11 (fun HT_ HW_ => ?_)
             generalize wc.drew = w39 at BK119 BK120 HB hHeld ⊢
             refine pure_ (i := 0) (N := some 73) (v := ?_) (a' := ?_) (bA 1 10) rfl rfl (any_of HT_.out (by kernel_rfl)) (fun _ _ _ h => h) (Or.inl ⟨by rfl, ?_⟩) ?_ ?_; rotate_left; (intro w'; go_simp; with_reducible rfl); rotate_left; (simp only [Act.put, sI_, s0_, sS_, i64_w, i32_w]; rfl)
             refine pure_ (i := 2) (N := some 75) (v := ?_) (a' := ?_) #[true, false, true, false, false, false, false, false, false, false] rfl rfl (any_of HT_.out (by kernel_rfl)) (fun _ _ _ h => h) (Or.inl ⟨by rfl, ?_⟩) ?_ ?_; rotate_left; (intro w'; go_simp; with_reducible rfl); rotate_left; (simp only [Act.put, sI_, s0_, sS_, i64_w, i32_w]; rfl)
             refine pure_ (i := 4) (N := some 77) (v := ?_) (a' := ?_) #[true, false, true, false, true, false, false, false, false, false] rfl rfl (any_of HT_.out (by kernel_rfl)) (fun _ _ _ h => h) (Or.inl ⟨by rfl, ?_⟩) ?_ ?_; rotate_left; (intro w'; go_simp; with_reducible rfl); rotate_left; (simp only [Act.put, sI_, s0_, sS_, i64_w, i32_w]; rfl)
             refine take_ (i := 1) (N := some 74) (v := ?_) (a' := ?_) #[true, true, true, false, true, false, false, false, false, false] rfl rfl (take_ofW HT_.out HW_.out (by kernel_rfl)) (fun _ _ _ h => h) (Or.inl ⟨by rfl, ?_⟩) hHeld ?_ ?_; rotate_left; (rintro w' ⟨s0, s1, s2⟩; go_simp; with_reducible rfl); rotate_left; (simp only [Act.put, sI_, s0_, sS_, i64_w, i32_w]; rfl)
             refine take_ (i := 3) (N := some 76) (v := ?_) (a' := ?_) (bA 5 10) rfl rfl (take_ofW HT_.out HW_.out (by kernel_rfl)) (fun _ _ _ h => h) (Or.inl ⟨by rfl, ?_⟩) hHeld ?_ ?_; rotate_left; (rintro w' ⟨s0, s1, s2⟩; go_simp; with_reducible rfl); rotate_left; (simp only [Act.put, sI_, s0_, sS_, i64_w, i32_w]; rfl)
             refine take_ (i := 5) (N := some 78) (v := ?_) (a' := ?_) (bA 6 10) rfl rfl (take_ofW HT_.out HW_.out (by kernel_rfl)) (fun _ _ _ h => h) (Or.inl ⟨by rfl, ?_⟩) hHeld ?_ ?_; rotate_left; (rintro w' ⟨s0, s1, s2⟩; go_simp; with_reducible rfl); rotate_left; (simp only [Act.put, sI_, s0_, sS_, i64_w, i32_w]; rfl)
             refine join_ (σ := Value × Nat) 1 #[true, true, true, true, true, true, true, true, true, false] (fun s_ => [(79, s_.1), (16, .pointer (some ⟨s_.2, 0, none⟩)), (80, .agg #[.int .i64 a0_0, .int .i64 a0_1, s_.1])]) (fun s_ w' => (w'.cell? ⟨gb119, 0, none⟩ = some (.int .i64 a0_0) ∧ w'.cell? ⟨gb119, 1, none⟩ = some (.int .i64 a0_1) ∧ w'.cell? ⟨gb119, 2, none⟩ = some (.slice (some ad122) l0_2.length c0_2)) ∧ (Kd.R (Kd.int .i64) 3 w' w.heap.size (fun _ => True) s_.1 y123) ∧ (w'.heap[gb119]? = some (.cells #[.int .i64 a0_0, .int .i64 a0_1, .slice (some ad122) l0_2.length c0_2] 24 (0, 0))) ∧ (w'.heap[gb120]? = some (.cells #[.int .i64 0, .int .i64 0, .slice none 0 0] 24 (0, 0))) ∧ (w'.heap[s_.2]? = some (.cells #[.int .i64 0, .int .i64 0, .slice none 0 0] 24 (0, 0))) ∧ (w.heap.size ≤ s_.2) ∧ (w.heap.size ≤ s_.2) ∧ (gb119 ≠ s_.2) ∧ (s_.2 ≠ gb119) ∧ (gb120 ≠ s_.2) ∧ (s_.2 ≠ gb120) ∧ (Below w.heap.size w w')) ?_ ?_
             rotate_left
             ·intro hCont
              refine two_ (i := 6) (j := 8) (Ni := some 79) (Nj := some 16) #[true, true, true, true, true, true, true, false, false, false] #[true, true, true, true, true, true, false, false, true, false] rfl rfl rfl rfl (two_of HT_.out (by kernel_rfl)) (by decide) (by decide) (fun K hK => ?_) (fun K hK => ?_)
              ·skip
               refine Kd.R_append_rows_step (Kd.int .i64) (w0 := w) w.heap.size (by rfl) (.const (.slice none 0 0)) (.tmp 78) 22 3 (.int .i64 0) 8 rfl Try.underlying22 info3 rfl (by decide) (by omega) (.slice none 0 0) ([] : List Int) l0_2 _ _ _ (fun _ => True) (fun _ => False) rfl rfl ?aO ?aR (fun _ _ h => h) (fun _ h => h.elim) ?aF ?aB ?aS ?aL ?_
               (case aR => exact dC_ HR0_2 HB)
               (case aB => exact (dL2_ HB GE119 GE120))
               (case aF => exact (fun _ _ => trivial))
               (case aO => exact ((Kd.R_nil _ _ _ _ (fun _ => True))))
               (case aS => exact (below_size (dL2_ HB GE119 GE120)))
               (case aL => have := LMc38.out; omega)
               intro v124 w40 ho hb hg hat
               rw [← Ny123.out] at ho
               replace BK119 := Aside0.mk (blk_grown (g := gb119) (o := .cells #[.int .i64 a0_0, .int .i64 a0_1, .slice (some ad122) l0_2.length c0_2] 24 (0, 0)) (dB_ BK119) hg (by simp [Value.ownBlock]))
               replace BK120 := Aside0.mk (blk_grown (g := gb120) (o := .cells #[.int .i64 0, .int .i64 0, .slice none 0 0] 24 (0, 0)) (dB_ BK120) hg (by simp [Value.ownBlock]))
               replace HB := Aside0.mk (hb)
               have HO125 := Aside0.mk (ho)
               clear ho hb hg hat
               obtain ⟨Ao41, co41, eo41⟩ := Kd.R_slice HO125.out
               (first | subst eo41 | (injection eo41 with f1_ f2_ f3_; have f4_ := f1_.symm; have f5_ := f3_.symm; clear f1_ f2_ f3_; subst f4_; subst f5_))
               refine hK.out _ _ ⟨(blk_cell BK119.out 0).trans rfl, (blk_cell BK119.out 1).trans rfl, (blk_cell BK119.out 2).trans rfl⟩ (fun hHeld => ?_)
               clear hK K
               refine norm_ (a' := ?_) ?_ ?_
               rotate_left
               ·show Act.put _ (some 79) _ = _
                simp only [Act.put, sI_, s0_, sS_, i64_w, i32_w]
                rfl
               refine pure_ (i := 7) (N := some 80) (v := ?_) (a' := ?_) (bA 8 10) rfl rfl (any_of HT_.out (by kernel_rfl)) (fun _ _ _ h => h) (Or.inl ⟨by rfl, ?_⟩) ?_ ?_; rotate_left; (intro w'; go_simp; with_reducible rfl); rotate_left; (simp only [Act.put, sI_, s0_, sS_, i64_w, i32_w]; rfl)
               refine one_ (i := 8) (N := some 16) (bA 9 10) rfl rfl (one_of HT_.out (by kernel_rfl)) (by decide) (fun K hK => ?_)
               refine box_step ?hg (N := 16) ?hd (cs := #[.int .i64 0, .int .i64 0, .slice none 0 0]) (t := 24) ?hr ?_; (case hd => rfl); (case hg => rfl); (case hr => first | (go_simp; done) | (go_simp; rfl))
               intro gb126 hg w42 hbox hb
               replace HO125 := Aside0.mk (Kd.R_below (dR_ HO125) hb)
               have BK126 := Aside0.mk (hbox)
               have GW126 := Aside0.mk ((dS_ hg (dL2_ HB GE119 GE120) : w.heap.size ≤ gb126))
               have GE126 := Aside0.mk ((dS_ hg (dL2_ HB GE119 GE120) : w.heap.size ≤ gb126))
               replace HB := Aside0.mk (below_step (dL2_ HB GE119 GE120) hb)
               have NB119_126 := Aside0.mk ((by rw [hg]; exact Nat.ne_of_lt (blk_lt (dB_ BK119)) : gb119 ≠ gb126))
               have NB126_119 := Aside0.mk ((by rw [hg]; exact Nat.ne_of_gt (blk_lt (dB_ BK119)) : gb126 ≠ gb119))
               replace BK119 := Aside0.mk (blk_below (g := gb119) (o := .cells #[.int .i64 a0_0, .int .i64 a0_1, .slice (some ad122) l0_2.length c0_2] 24 (0, 0)) (dB_ BK119) hb)
               have NB120_126 := Aside0.mk ((by rw [hg]; exact Nat.ne_of_lt (blk_lt (dB_ BK120)) : gb120 ≠ gb126))
               have NB126_120 := Aside0.mk ((by rw [hg]; exact Nat.ne_of_gt (blk_lt (dB_ BK120)) : gb126 ≠ gb120))
               replace BK120 := Aside0.mk (blk_below (g := gb120) (o := .cells #[.int .i64 0, .int .i64 0, .slice none 0 0] 24 (0, 0)) (dB_ BK120) hb)
               clear hb hbox hg
               refine hK.out _ _ ⟨(blk_cell BK119.out 0).trans rfl, (blk_cell BK119.out 1).trans rfl, (blk_cell BK119.out 2).trans rfl⟩ (fun hHeld => ?_)
               clear hK K
               refine norm_ (a' := ?_) ?_ ?_
               rotate_left
               ·show Act.put _ (some 16) _ = _
                simp only [Act.put, sI_, s0_, sS_, i64_w, i32_w]
                rfl
               exact norm_ (by simp only [putAll, Act.put, sI_, s0_, sS_]) (hCont (.slice Ao41 y123.length co41, gb126) _ ⟨hHeld, (dR_ HO125), (dB_ BK119), (dB_ BK120), (dB_ BK126), GW126.out, GE126.out, NB119_126.out, NB126_119.out, NB120_126.out, NB126_120.out, (dL3_ HB GE119 GE120 GE126)⟩)
              ·skip
               refine box_step ?hg (N := 16) ?hd (cs := #[.int .i64 0, .int .i64 0, .slice none 0 0]) (t := 24) ?hr ?_; (case hd => rfl); (case hg => rfl); (case hr => first | (go_simp; done) | (go_simp; rfl))
               intro gb126 hg w40 hbox hb
               have BK126 := Aside0.mk (hbox)
               have GW126 := Aside0.mk ((dS_ hg (dL2_ HB GE119 GE120) : w.heap.size ≤ gb126))
               have GE126 := Aside0.mk ((dS_ hg (dL2_ HB GE119 GE120) : w.heap.size ≤ gb126))
               replace HB := Aside0.mk (below_step (dL2_ HB GE119 GE120) hb)
               have NB119_126 := Aside0.mk ((by rw [hg]; exact Nat.ne_of_lt (blk_lt (dB_ BK119)) : gb119 ≠ gb126))
               have NB126_119 := Aside0.mk ((by rw [hg]; exact Nat.ne_of_gt (blk_lt (dB_ BK119)) : gb126 ≠ gb119))
               replace BK119 := Aside0.mk (blk_below (g := gb119) (o := .cells #[.int .i64 a0_0, .int .i64 a0_1, .slice (some ad122) l0_2.length c0_2] 24 (0, 0)) (dB_ BK119) hb)
               have NB120_126 := Aside0.mk ((by rw [hg]; exact Nat.ne_of_lt (blk_lt (dB_ BK120)) : gb120 ≠ gb126))
               have NB126_120 := Aside0.mk ((by rw [hg]; exact Nat.ne_of_gt (blk_lt (dB_ BK120)) : gb126 ≠ gb120))
               replace BK120 := Aside0.mk (blk_below (g := gb120) (o := .cells #[.int .i64 0, .int .i64 0, .slice none 0 0] 24 (0, 0)) (dB_ BK120) hb)
               clear hb hbox hg
               refine hK.out _ _ ⟨(blk_cell BK119.out 0).trans rfl, (blk_cell BK119.out 1).trans rfl, (blk_cell BK119.out 2).trans rfl⟩ (fun hHeld => ?_)
               clear hK K
               refine norm_ (a' := ?_) ?_ ?_
               rotate_left
               ·show Act.put _ (some 16) _ = _
                simp only [Act.put, sI_, s0_, sS_, i64_w, i32_w]
                rfl
               refine one_ (i := 6) (N := some 79) #[true, true, true, true, true, true, true, false, true, false] rfl rfl (one_of HT_.out (by kernel_rfl)) (by decide) (fun K hK => ?_)
               refine Kd.R_append_rows_step (Kd.int .i64) (w0 := w) w.heap.size (by rfl) (.const (.slice none 0 0)) (.tmp 78) 22 3 (.int .i64 0) 8 rfl Try.underlying22 info3 rfl (by decide) (by omega) (.slice none 0 0) ([] : List Int) l0_2 _ _ _ (fun _ => True) (fun _ => False) rfl rfl ?aO ?aR (fun _ _ h => h) (fun _ h => h.elim) ?aF ?aB ?aS ?aL ?_
               (case aR => exact dC_ HR0_2 HB)
               (case aB => exact (dL3_ HB GE119 GE120 GE126))
               (case aF => exact (fun _ _ => trivial))
               (case aO => exact ((Kd.R_nil _ _ _ _ (fun _ => True))))
               (case aS => exact (below_size (dL3_ HB GE119 GE120 GE126)))
               (case aL => have := LMc38.out; omega)
               intro v124 w41 ho hb hg hat
               rw [← Ny123.out] at ho
               replace BK119 := Aside0.mk (blk_grown (g := gb119) (o := .cells #[.int .i64 a0_0, .int .i64 a0_1, .slice (some ad122) l0_2.length c0_2] 24 (0, 0)) (dB_ BK119) hg (by simp [Value.ownBlock]))
               replace BK120 := Aside0.mk (blk_grown (g := gb120) (o := .cells #[.int .i64 0, .int .i64 0, .slice none 0 0] 24 (0, 0)) (dB_ BK120) hg (by simp [Value.ownBlock]))
               replace BK126 := Aside0.mk (blk_grown (g := gb126) (o := .cells #[.int .i64 0, .int .i64 0, .slice none 0 0] 24 (0, 0)) (dB_ BK126) hg (by simp [Value.ownBlock]))
               replace HB := Aside0.mk (hb)
               have HO125 := Aside0.mk (ho)
               clear ho hb hg hat
               obtain ⟨Ao42, co42, eo42⟩ := Kd.R_slice HO125.out
               (first | subst eo42 | (injection eo42 with f1_ f2_ f3_; have f4_ := f1_.symm; have f5_ := f3_.symm; clear f1_ f2_ f3_; subst f4_; subst f5_))
               refine hK.out _ _ ⟨(blk_cell BK119.out 0).trans rfl, (blk_cell BK119.out 1).trans rfl, (blk_cell BK119.out 2).trans rfl⟩ (fun hHeld => ?_)
               clear hK K
               refine norm_ (a' := ?_) ?_ ?_
               rotate_left
               ·show Act.put _ (some 79) _ = _
                simp only [Act.put, sI_, s0_, sS_, i64_w, i32_w]
                rfl
               refine pure_ (i := 7) (N := some 80) (v := ?_) (a' := ?_) (bA 9 10) rfl rfl (any_of HT_.out (by kernel_rfl)) (fun _ _ _ h => h) (Or.inl ⟨by rfl, ?_⟩) ?_ ?_; rotate_left; (intro w'; go_simp; with_reducible rfl); rotate_left; (simp only [Act.put, sI_, s0_, sS_, i64_w, i32_w]; rfl)
               exact norm_ (by simp only [putAll, Act.put, sI_, s0_, sS_]) (hCont (.slice Ao42 y123.length co42, gb126) _ ⟨hHeld, (dR_ HO125), (dB_ BK119), (dB_ BK120), (dB_ BK126), GW126.out, GE126.out, NB119_126.out, NB126_119.out, NB120_126.out, NB126_120.out, (dL3_ HB GE119 GE120 GE126)⟩)
             rintro ⟨v124, gb126⟩ w43 ⟨hS_, h0_, h1_, h2_, h3_, h4_, h5_, h6_, h7_, h8_, h9_, h10_⟩
             have n0_ : Aside0 (Kd.R (Kd.int .i64) 3 w43 w.heap.size (fun _ => True) v124 y123) := ⟨h0_⟩
             have n1_ : Aside0 (w43.heap[gb119]? = some (.cells #[.int .i64 a0_0, .int .i64 a0_1, .slice (some ad122) l0_2.length c0_2] 24 (0, 0))) := ⟨h1_⟩
             have n2_ : Aside0 (w43.heap[gb120]? = some (.cells #[.int .i64 0, .int .i64 0, .slice none 0 0] 24 (0, 0))) := ⟨h2_⟩
             have n3_ : Aside0 (w43.heap[gb126]? = some (.cells #[.int .i64 0, .int .i64 0, .slice none 0 0] 24 (0, 0))) := ⟨h3_⟩
             have n4_ : Aside0 (w.heap.size ≤ gb126) := ⟨h4_⟩
             have n5_ : Aside0 (w.heap.size ≤ gb126) := ⟨h5_⟩
             have n6_ : Aside0 (gb119 ≠ gb126) := ⟨h6_⟩
             have n7_ : Aside0 (gb126 ≠ gb119) := ⟨h7_⟩
             have n8_ : Aside0 (gb120 ≠ gb126) := ⟨h8_⟩
             have n9_ : Aside0 (gb126 ≠ gb120) := ⟨h9_⟩
             have n10_ : Aside0 (Below w.heap.size w w43) := ⟨h10_⟩
             clear BK119
             clear BK120
             clear HB
             clear h0_ h1_ h2_ h3_ h4_ h5_ h6_ h7_ h8_ h9_ h10_
             have HO125 := n0_
             have BK119 := n1_
             have BK120 := n2_
             have BK126 := n3_
             have GW126 := n4_
             have GE126 := n5_
             have NB119_126 := n6_
             have NB126_119 := n7_
             have NB120_126 := n8_
             have NB126_120 := n9_
             have HB := n10_
             clear n0_ n1_ n2_ n3_ n4_ n5_ n6_ n7_ n8_ n9_ n10_
             have hHeld : w43.cell? ⟨gb119, 0, none⟩ = some (.int .i64 a0_0) ∧ w43.cell? ⟨gb119, 1, none⟩ = some (.int .i64 a0_1) ∧ w43.cell? ⟨gb119, 2, none⟩ = some (.slice (some ad122) l0_2.length c0_2) := hS_
             obtain ⟨Ao44, co44, eo44⟩ := Kd.R_slice HO125.out
             (first | subst eo44 | (injection eo44 with f1_ f2_ f3_; have f4_ := f1_.symm; have f5_ := f3_.symm; clear f1_ f2_ f3_; subst f4_; subst f5_))
             refine norm_ (a' := ?_) ?_ ?_; rotate_left; (simp only [putAll, Act.put, sI_, s0_, sS_]; rfl)
             refine one_ (i := 9) (N := none) (bA 10 10) rfl rfl (one_of HT_.out (by kernel_rfl)) (by decide) (fun K hK => ?_)
             have hs45 : w43.cell? ⟨gb126, 0, none⟩ = some (.int .i64 0) := (blk_cell BK126.out 0).trans rfl
             have hfs45 := blk_frozen BK126.out 0
             have hns45_0 := NB119_126.out
             have hns45_1 := NB120_126.out
             have hms45_0 := NB126_119.out
             have hms45_1 := NB126_120.out
             have hs46 : w43.cell? ⟨gb126, 1, none⟩ = some (.int .i64 0) := (blk_cell BK126.out 1).trans rfl
             have hfs46 := blk_frozen BK126.out 1
             have hns46_0 := NB119_126.out
             have hns46_1 := NB120_126.out
             have hms46_0 := NB126_119.out
             have hms46_1 := NB126_120.out
             have hs47 : w43.cell? ⟨gb126, 2, none⟩ = some (.slice none 0 0) := (blk_cell BK126.out 2).trans rfl
             have hfs47 := blk_frozen BK126.out 2
             have hns47_0 := NB119_126.out
             have hns47_1 := NB120_126.out
             have hms47_0 := NB126_119.out
             have hms47_1 := NB126_120.out
             refine skip_ (w1 := ?_) (by rfl) rfl ?_ ?_
             rotate_left
             ·go_simp
              rfl
             refine hK.out _ _ ⟨((cell_far (p := ⟨gb126, _, none⟩) NB119_126.out _).trans (((cell_far (p := ⟨gb126, _, none⟩) NB119_126.out _).trans (((cell_far (p := ⟨gb126, _, none⟩) NB119_126.out _).trans (hHeld.1)))))), ((cell_far (p := ⟨gb126, _, none⟩) NB119_126.out _).trans (((cell_far (p := ⟨gb126, _, none⟩) NB119_126.out _).trans (((cell_far (p := ⟨gb126, _, none⟩) NB119_126.out _).trans (hHeld.2.1)))))), ((cell_far (p := ⟨gb126, _, none⟩) NB119_126.out _).trans (((cell_far (p := ⟨gb126, _, none⟩) NB119_126.out _).trans (((cell_far (p := ⟨gb126, _, none⟩) NB119_126.out _).trans (hHeld.2.2))))))⟩ (fun hHeld => ?_)
             clear hK K
             refine done_ (done_of HT_.out (by kernel_rfl)) ?_
             have hnb48 := NB119_120.out
             have hnc48 := NB120_119.out
             have hnb49 := NB119_126.out
             have hnc49 := NB126_119.out
             obtain ⟨hcz50_0, hcz50_1, hcz50_2, hfz50_0, hfz50_1, hfz50_2⟩ := cs3_ BK119.out
             try go_wp2
             go_loopg [17, 18, 84] kj32 (fun kq v17 v18 v84 w' => ∃ (x17_4 : List (S36)) (x18_4 : Int) (x84_4 : Int) (x127002_4 : List Int) (u127002 : Value), v18 = .int .i64 x18_4 ∧ v84 = .int .i64 x84_4 ∧ Aside0 (land_Shift.l0 kq a1 a2 a3 l4 x15_28 x17_4 x18_4 l0_2 (l0_2.length : Int) x84_4 a0_0 a0_1 l0_2 a0_0 a0_1 x127002_4 = some (r1, r2, r3, r4, r5, r6)) ∧ Aside0 (kq ≤ kj32) ∧ Aside0 (Kd.R k36 36 w' w.heap.size (fun _ => True) v17 x17_4) ∧ Aside0 (Kd.R (Kd.int .i64) 3 w' w.heap.size (fun _ => True) u127002 x127002_4) ∧ Aside0 (w'.heap[gb119]? = some (.cells #[.int .i64 a0_0, .int .i64 a0_1, (.slice (some ad122) l0_2.length c0_2)] 24 (0, 0))) ∧ Aside0 (w'.heap[gb120]? = some (.cells #[.int .i64 0, .int .i64 0, (.slice none 0 0)] 24 (0, 0))) ∧ Aside0 (w'.heap[gb126]? = some (.cells #[.int .i64 a0_0, .int .i64 a0_1, u127002] 24 (0, 0))) ∧ Aside0 (Below w.heap.size w w'))
             case atStart => exact ⟨(([] : List (S36))), (0), (0), (y123), (.slice Ao44 y123.length co44), tS_, tS_, H', ⟨Nat.le_refl _⟩, ⟨by first | exact Kd.R_nil _ _ _ _ _ | exact Kd.N_nil _ _ _ _ _ | exact Kd.V_nil _ _ _ _ _ | exact Kd.Q_nil _ _ _ _ _ | exact Kd.S_nil _ _ _ _ _⟩, ⟨by (with_reducible repeat (first | apply Kd.R_alloc | apply Kd.R_drewN | apply Kd.R_drew)); exact Kd.R_mono (Kd.R_far (p := ⟨gb126, 2, none⟩) (Kd.R_far (p := ⟨gb126, 1, none⟩) (Kd.R_far (p := ⟨gb126, 0, none⟩) (Kd.R_types HO125.out BK126.out (by decide)) (fun _ hk => hk.2) (.int .i64 a0_0)) (fun _ hk => hk.2) (.int .i64 a0_1)) (fun _ hk => hk.2) (.slice Ao44 y123.length co44)) (fun _ hk => trivial)⟩, ⟨by (with_reducible repeat (first | refine blk_drewN ?_ _ | refine blk_drew ?_ | refine blk_alloc ?_ _)); refine blk_far ?_ NB119_126.out _; (with_reducible repeat (first | refine blk_drewN ?_ _ | refine blk_drew ?_ | refine blk_alloc ?_ _)); refine blk_far ?_ NB119_126.out _; (with_reducible repeat (first | refine blk_drewN ?_ _ | refine blk_drew ?_ | refine blk_alloc ?_ _)); refine blk_far ?_ NB119_126.out _; (with_reducible repeat (first | refine blk_drewN ?_ _ | refine blk_drew ?_ | refine blk_alloc ?_ _)); exact BK119.out⟩, ⟨by (with_reducible repeat (first | refine blk_drewN ?_ _ | refine blk_drew ?_ | refine blk_alloc ?_ _)); refine blk_far ?_ NB120_126.out _; (with_reducible repeat (first | refine blk_drewN ?_ _ | refine blk_drew ?_ | refine blk_alloc ?_ _)); refine blk_far ?_ NB120_126.out _; (with_reducible repeat (first | refine blk_drewN ?_ _ | refine blk_drew ?_ | refine blk_alloc ?_ _)); refine blk_far ?_ NB120_126.out _; (with_reducible repeat (first | refine blk_drewN ?_ _ | refine blk_drew ?_ | refine blk_alloc ?_ _)); exact BK120.out⟩, ⟨by (with_reducible repeat (first | refine blk_drewN ?_ _ | refine blk_drew ?_ | refine blk_alloc ?_ _)); refine blk_put (cs := #[.int .i64 a0_0, .int .i64 a0_1, .slice none 0 0]) ?_ 2 _ rfl; (with_reducible repeat (first | refine blk_drewN ?_ _ | refine blk_drew ?_ | refine blk_alloc ?_ _)); refine blk_put (cs := #[.int .i64 a0_0, .int .i64 0, .slice none 0 0]) ?_ 1 _ rfl; (with_reducible repeat (first | refine blk_drewN ?_ _ | refine blk_drew ?_ | refine blk_alloc ?_ _)); refine blk_put (cs := #[.int .i64 0, .int .i64 0, .slice none 0 0]) ?_ 0 _ rfl; (with_reducible repeat (first | refine blk_drewN ?_ _ | refine blk_drew ?_ | refine blk_alloc ?_ _)); exact BK126.out⟩, ⟨dL3_ HB GE119 GE120 GE126⟩⟩
             case round =>
              clear H'
              try clear c4
              try clear c7
              try clear c7b0
              try clear c7b1
              try clear c14
              try clear c15
              try clear c18
              try clear c23
              try clear c27
              try clear c27b0
              try clear c28
              try clear c28b0
              try clear c34
              try clear c35
              try clear c38
              try clear hcz12_0
              try clear hcz12_1
              try clear hcz12_2
              try clear hcz31_0
              try clear hcz31_1
              try clear hcz31_2
              try clear hcz50_0
              try clear hcz50_1
              try clear hcz50_2
              try clear hfz12_0
              try clear hfz12_1
              try clear hfz12_2
              try clear hfz31_0
              try clear hfz31_1
              try clear hfz31_2
              try clear hfz50_0
              try clear hfz50_1
              try clear hfz50_2
              try clear hx122_0
              try clear p122
              try clear q122
              obtain ⟨x17_4, x18_4, x84_4, x127002_4, u127002, rfl, rfl, HA, HK4, HO_17, HO_127002, BK119, BK120, BK126, HB⟩ := hrel
              cases gk with
              | zero => exact absurd HA.out (by simp [land_Shift.l0])
              | succ k4 =>
               have H := HA.out
               clear HA
               simp only [land_Shift.l0] at H
               by_cases c51 : x84_4 < (l0_2.length : Int)
               ·rw [if_pos c51] at H
                have c51b0 : decide (x84_4 < (l0_2.length : Int)) = true := decide_eq_true c51
                clear c51
                by_cases c52 : 0 ≤ x84_4
                ·rw [if_pos c52] at H
                 have c52b0 : decide (0 ≤ x84_4) = true := decide_eq_true c52
                 clear c52
                 by_cases c53 : x84_4 < (l0_2.length : Int)
                 ·rw [if_pos c53] at H
                  have c53b0 : decide (x84_4 < (l0_2.length : Int)) = true := decide_eq_true c53
                  clear c53
                  by_cases c54 : (wrap64 (a0_0 + 1)) = 0
                  ·rw [if_pos c54] at H
                   exact absurd H (by simp)
                  ·rw [if_neg c54] at H
                   have c54b0 : ((wrap64 (a0_0 + 1)) == 0) = false := beq_eq_false_iff_ne.mpr c54
                   have c54b1 : ((wrap64 (a0_0 + 1)) != 0) = true := bne_iff_ne.mpr c54
                   have HC55 := Aside0.mk H
                   clear H
                   have p127 : 0 ≤ (x84_4 : Int) := of_decide_eq_true tW_
                   have q127 : x84_4 < (l0_2.length : Int) := of_decide_eq_true tW_
                   obtain ⟨ad127, e127, hx127_0⟩ := Kd.at_int HR0_2.out x84_4 p127 q127
                   obtain rfl : ad122 = ad127 := (by injection e127)
                   replace hx127_0 := bc_ HB hx127_0
                   replace p127 := eq_true p127
                   replace q127 := eq_true q127
                   try go_wp2
                   replace HO_17 := Aside0.mk (Kd.R_drew HO_17.out)
                   replace HO_127002 := Aside0.mk (Kd.R_drew HO_127002.out)
                   replace BK119 := Aside0.mk (blk_drew BK119.out)
                   replace BK120 := Aside0.mk (blk_drew BK120.out)
                   replace BK126 := Aside0.mk (blk_drew BK126.out)
                   replace HB := Aside0.mk (below_drew1 HB.out)
                   refine start_ (n := 12) (S := fun w' => w'.cell? ⟨gb119, 0, none⟩ = some (.int .i64 a0_0) ∧ w'.cell? ⟨gb119, 1, none⟩ = some (.int .i64 a0_1) ∧ w'.cell? ⟨gb119, 2, none⟩ = some (.slice (some ad122) l0_2.length c0_2)) (ds := []) #[false, false, false, false, false, false, false, false, false, false, false, false] (by kernel_rfl) rfl rfl ⟨(blk_cell BK119.out 0).trans rfl, (blk_cell BK119.out 1).trans rfl, (blk_cell BK119.out 2).trans rfl⟩ (fun hHeld => ?_); refine with_tabW land_Shift.tab17 land_Shift.bits17 (fun HT_ HW_ => ?_)
                   generalize wr.drew = w56 at HO_17 HO_127002 BK119 BK120 BK126 HB hHeld ⊢
                   refine pure_ (i := 0) (N := some 89) (v := ?_) (a' := ?_) (bA 1 12) rfl rfl (any_of HT_.out (by kernel_rfl)) (fun _ _ _ h => h) (Or.inl ⟨by rfl, ?_⟩) ?_ ?_; rotate_left; (intro w'; go_simp; with_reducible rfl); rotate_left; (simp only [Act.put, sI_, s0_, sS_, i64_w, i32_w]; rfl)
                   refine pure_ (i := 1) (N := some 90) (v := ?_) (a' := ?_) (bA 2 12) rfl rfl (any_of HT_.out (by kernel_rfl)) (fun _ _ _ h => h) (Or.inl ⟨by rfl, ?_⟩) ?_ ?_; rotate_left; (intro w'; go_simp; with_reducible rfl); rotate_left; (simp only [Act.put, sI_, s0_, sS_, i64_w, i32_w]; rfl)
                   refine pure_ (i := 5) (N := some 94) (v := ?_) (a' := ?_) #[true, true, false, false, false, true, false, false, false, false, false, false] rfl rfl (any_of HT_.out (by kernel_rfl)) (fun _ _ _ h => h) (Or.inl ⟨by rfl, ?_⟩) ?_ ?_; rotate_left; (intro w'; go_simp; with_reducible rfl); rotate_left; (simp only [Act.put, sI_, s0_, sS_, i64_w, i32_w]; rfl)
                   refine pure_ (i := 6) (N := some 95) (v := ?_) (a' := ?_) #[true, true, false, false, false, true, true, false, false, false, false, false] rfl rfl (any_of HT_.out (by kernel_rfl)) (fun _ _ _ h => h) (Or.inl ⟨by rfl, ?_⟩) ?_ ?_; rotate_left; (intro w'; go_simp; with_reducible rfl); rotate_left; (simp only [Act.put, sI_, s0_, sS_, i64_w, i32_w]; rfl)
                   refine take_ (i := 2) (N := some 91) (v := ?_) (a' := ?_) #[true, true, true, false, false, true, true, false, false, false, false, false] rfl rfl (take_ofW HT_.out HW_.out (by kernel_rfl)) (fun _ _ _ h => h) (Or.inl ⟨by rfl, ?_⟩) hHeld ?_ ?_; rotate_left; (rintro w' ⟨s0, s1, s2⟩; go_simp; with_reducible rfl); rotate_left; (simp only [Act.put, sI_, s0_, sS_, i64_w, i32_w]; rfl)
                   refine pure_ (i := 3) (N := some 92) (v := ?_) (a' := ?_) #[true, true, true, true, false, true, true, false, false, false, false, false] rfl rfl (any_of HT_.out (by kernel_rfl)) (fun _ _ _ h => h) (Or.inl ⟨by rfl, ?_⟩) ?_ ?_; rotate_left; (intro w'; go_simp; with_reducible rfl); rotate_left; (simp only [Act.put, sI_, s0_, sS_, i64_w, i32_w]; rfl)
                   refine pure_ (i := 4) (N := some 93) (v := ?_) (a' := ?_) (bA 7 12) rfl rfl (any_of HT_.out (by kernel_rfl)) (fun _ _ _ h => h) (Or.inl ⟨by rfl, ?_⟩) ?_ ?_; rotate_left; (intro w'; go_simp; with_reducible rfl); rotate_left; (simp only [Act.put, sI_, s0_, sS_, i64_w, i32_w]; rfl)
                   refine pure_ (i := 10) (N := some 21) (v := ?_) (a' := ?_) #[true, true, true, true, true, true, true, false, false, false, true, false] rfl rfl (any_of HT_.out (by kernel_rfl)) (fun _ _ _ h => h) (Or.inl ⟨by rfl, ?_⟩) ?_ ?_; rotate_left; (intro w'; go_simp; with_reducible rfl); rotate_left; (simp only [Act.put, sI_, s0_, sS_, i64_w, i32_w]; rfl)
                   refine take_ (i := 7) (N := some 96) (v := ?_) (a' := ?_) #[true, true, true, true, true, true, true, true, false, false, true, false] rfl rfl (take_ofW HT_.out HW_.out (by kernel_rfl)) (fun _ _ _ h => h) (Or.inl ⟨by rfl, ?_⟩) hHeld ?_ ?_; rotate_left; (rintro w' ⟨s0, s1, s2⟩; go_simp; with_reducible rfl); rotate_left; (simp only [Act.put, sI_, s0_, sS_, i64_w, i32_w]; rfl)
                   refine pure_ (i := 8) (N := some 97) (v := ?_) (a' := ?_) #[true, true, true, true, true, true, true, true, true, false, true, false] rfl rfl (any_of HT_.out (by kernel_rfl)) (fun _ _ _ h => h) (Or.inl ⟨by rfl, ?_⟩) ?_ ?_; rotate_left; (intro w'; go_simp; with_reducible rfl); rotate_left; (simp only [Act.put, sI_, s0_, sS_, i64_w, i32_w]; rfl)
                   refine pure_ (i := 9) (N := some 98) (v := ?_) (a' := ?_) (bA 11 12) rfl rfl (any_of HT_.out (by kernel_rfl)) (fun _ _ _ h => h) (Or.inl ⟨by rfl, ?_⟩) ?_ ?_; rotate_left; (intro w'; go_simp; with_reducible rfl); rotate_left; (simp only [Act.put, sI_, s0_, sS_, i64_w, i32_w]; rfl)
                   refine pure_ (i := 11) (N := some 22) (v := ?_) (a' := ?_) (bA 12 12) rfl rfl (any_of HT_.out (by kernel_rfl)) (fun _ _ _ h => h) (Or.inl ⟨by rfl, ?_⟩) ?_ ?_; rotate_left; (intro w'; go_simp; with_reducible rfl); rotate_left; (simp only [Act.put, sI_, s0_, sS_, i64_w, i32_w]; rfl)
                   refine done_ (done_of HT_.out (by kernel_rfl)) ?_
                   go_upto_if 100 with (fail)
                   go_cut [23] (fun v23 wc => ∃ (kq : Nat) (x23_54 : Int), v23 = .int .i64 x23_54 ∧ Aside0 (land_Shift.j4 kq a1 a2 a3 l4 x15_28 x17_4 x18_4 x84_4 (rd l0_2 x84_4) (Int.tmod x84_4 (wrap64 (a0_0 + 1))) (wrap64 (Int.tdiv x84_4 (wrap64 (a0_0 + 1)))) x23_54 l0_2 (l0_2.length : Int) x84_4 a0_0 a0_1 l0_2 a0_0 a0_1 x127002_4 = some (r1, r2, r3, r4, r5, r6)) ∧ Aside0 (kq ≤ k4) ∧ Aside0 (Kd.R k36 36 wc w.heap.size (fun _ => True) u17 x17_4) ∧ Aside0 (Kd.R (Kd.int .i64) 3 wc w.heap.size (fun _ => True) u127002 x127002_4) ∧ Aside0 (wc.heap[gb119]? = some (.cells #[.int .i64 a0_0, .int .i64 a0_1, (.slice (some ad122) l0_2.length c0_2)] 24 (0, 0))) ∧ Aside0 (wc.heap[gb120]? = some (.cells #[.int .i64 0, .int .i64 0, (.slice none 0 0)] 24 (0, 0))) ∧ Aside0 (wc.heap[gb126]? = some (.cells #[.int .i64 a0_0, .int .i64 a0_1, u127002] 24 (0, 0))) ∧ Aside0 (Below w.heap.size w wc))
                   case first =>
                    have H := HC55.out
                    clear HC55
                    by_cases c57 : a3 = true
                    ·subst c57
                     have H1 : ((land_far.f a1 a2 (Int.tmod x84_4 (wrap64 (a0_0 + 1))) (wrap64 (Int.tdiv x84_4 (wrap64 (a0_0 + 1))))).bind fun t128 => (land_Shift.j4 k4 a1 a2 true l4 x15_28 x17_4 x18_4 x84_4 (rd l0_2 x84_4) (Int.tmod x84_4 (wrap64 (a0_0 + 1))) (wrap64 (Int.tdiv x84_4 (wrap64 (a0_0 + 1)))) (mx (rd l0_2 x84_4) (wrap64 (x15_28 - t128))) l0_2 (l0_2.length : Int) x84_4 a0_0 a0_1 l0_2 a0_0 a0_1 x127002_4)) = some (r1, r2, r3, r4, r5, r6) := by rw [if_pos rfl] at H; exact H
                     clear H
                     have H := H1
                     clear H1
                     replace H := Option.bind_eq_some_iff.mp H
                     obtain ⟨t128, A580, H⟩ := H
                     replace H : (land_Shift.j4 k4 a1 a2 true l4 x15_28 x17_4 x18_4 x84_4 (rd l0_2 x84_4) (Int.tmod x84_4 (wrap64 (a0_0 + 1))) (wrap64 (Int.tdiv x84_4 (wrap64 (a0_0 + 1)))) (mx (rd l0_2 x84_4) (wrap64 (x15_28 - t128))) l0_2 (l0_2.length : Int) x84_4 a0_0 a0_1 l0_2 a0_0 a0_1 x127002_4) = some (r1, r2, r3, r4, r5, r6) := H
                     have A58 := Aside0.mk A580
                     clear A580
                     obtain ⟨ji59, hji59⟩ : ∃ j_ : Int, (mx (rd l0_2 x84_4) (wrap64 (x15_28 - t128))) = j_ := ⟨_, rfl⟩
                     replace H : (land_Shift.j4 k4 a1 a2 true l4 x15_28 x17_4 x18_4 x84_4 (rd l0_2 x84_4) (Int.tmod x84_4 (wrap64 (a0_0 + 1))) (wrap64 (Int.tdiv x84_4 (wrap64 (a0_0 + 1)))) ji59 l0_2 (l0_2.length : Int) x84_4 a0_0 a0_1 l0_2 a0_0 a0_1 x127002_4) = some (r1, r2, r3, r4, r5, r6) := by first | (rw [hji59] at H; exact H) | (simp only [hji59] at H ⊢; exact H)
                     (try rw [hji59] at A58)
                     have hji59_ : (if (rd l0_2 x84_4) < (wrap64 (x15_28 - t128)) then (wrap64 (x15_28 - t128)) else (rd l0_2 x84_4)) = ji59 := hji59
                     have H' := Aside0.mk H
                     clear H
                     go_wp2_with (first | ((with_reducible refine gate_callee (f := 45) rfl ?_); refine goesL_ (some 107) rfl rfl Try.func45 (by kernel_rfl) rfl #[.int .i64 a1, .int .i64 a2, .int .i64 (Int.tmod x84_4 (wrap64 (a0_0 + 1))), .int .i64 (wrap64 (Int.tdiv x84_4 (wrap64 (a0_0 + 1))))] rfl tA_ ?_; (with_reducible refine (land_far.calls a1 a2 (Int.tmod x84_4 (wrap64 (a0_0 + 1))) (wrap64 (Int.tdiv x84_4 (wrap64 (a0_0 + 1)))) t128 _ A58.out).mono ?_); rintro e w60 ⟨rfl, hb⟩; refine ⟨_, rfl, ?_⟩; replace HO_17 := Aside0.mk (Kd.R_below (dR_ HO_17) hb); replace HO_127002 := Aside0.mk (Kd.R_below (dR_ HO_127002) hb); replace BK119 := Aside0.mk (blk_below (g := gb119) (o := .cells #[.int .i64 a0_0, .int .i64 a0_1, .slice (some ad122) l0_2.length c0_2] 24 (0, 0)) (dB_ BK119) hb); replace BK120 := Aside0.mk (blk_below (g := gb120) (o := .cells #[.int .i64 0, .int .i64 0, .slice none 0 0] 24 (0, 0)) (dB_ BK120) hb); replace BK126 := Aside0.mk (blk_below (g := gb126) (o := .cells #[.int .i64 a0_0, .int .i64 a0_1, u127002] 24 (0, 0)) (dB_ BK126) hb); replace HB := Aside0.mk (below_step (dL3_ HB GE119 GE120 GE126) hb)))
                     go_meet
                     case rel => exact ⟨_, (ji59), (by first | rfl | (simp; done) | (simp only [← hji59]; rw [shl_one_small _ (by assumption) (by omega)]; done) | (simp only [← hji59] <;> (first | rfl | simp)) | (simp [*]; done) | (refine congrArg (Value.int .i64) ?_; unfold wrap64; omega) | (simp only [shl_one_small _ (by assumption) (by omega)]; done) | (simp [*]; rw [shl_one_small _ (by assumption) (by omega)]; done)), H', ⟨by have := HJ7.out; have := HJ28.out; have := HJ32.out; have := HK4.out; first | omega | exact Nat.le_refl _⟩, ⟨dR_ HO_17⟩, ⟨dR_ HO_127002⟩, ⟨dB_ BK119⟩, ⟨dB_ BK120⟩, ⟨dB_ BK126⟩, ⟨dL3_ HB GE119 GE120 GE126⟩⟩
                    ·replace c57 := Bool.eq_false_iff.mpr c57
                     subst c57
                     have H1 : ((land_far.f a1 a2 (Int.tmod x84_4 (wrap64 (a0_0 + 1))) (wrap64 (Int.tdiv x84_4 (wrap64 (a0_0 + 1))))).bind fun t129 => (land_Shift.j4 k4 a1 a2 false l4 x15_28 x17_4 x18_4 x84_4 (rd l0_2 x84_4) (Int.tmod x84_4 (wrap64 (a0_0 + 1))) (wrap64 (Int.tdiv x84_4 (wrap64 (a0_0 + 1)))) (mn (rd l0_2 x84_4) (wrap64 (x15_28 + t129))) l0_2 (l0_2.length : Int) x84_4 a0_0 a0_1 l0_2 a0_0 a0_1 x127002_4)) = some (r1, r2, r3, r4, r5, r6) := by rw [if_neg (show ¬ (false = true) by decide)] at H; exact H
                     clear H
                     have H := H1
                     clear H1
                     replace H := Option.bind_eq_some_iff.mp H
                     obtain ⟨t129, A610, H⟩ := H
                     replace H : (land_Shift.j4 k4 a1 a2 false l4 x15_28 x17_4 x18_4 x84_4 (rd l0_2 x84_4) (Int.tmod x84_4 (wrap64 (a0_0 + 1))) (wrap64 (Int.tdiv x84_4 (wrap64 (a0_0 + 1)))) (mn (rd l0_2 x84_4) (wrap64 (x15_28 + t129))) l0_2 (l0_2.length : Int) x84_4 a0_0 a0_1 l0_2 a0_0 a0_1 x127002_4) = some (r1, r2, r3, r4, r5, r6) := H
                     have A61 := Aside0.mk A610
                     clear A610
                     obtain ⟨ji62, hji62⟩ : ∃ j_ : Int, (mn (rd l0_2 x84_4) (wrap64 (x15_28 + t129))) = j_ := ⟨_, rfl⟩
                     replace H : (land_Shift.j4 k4 a1 a2 false l4 x15_28 x17_4 x18_4 x84_4 (rd l0_2 x84_4) (Int.tmod x84_4 (wrap64 (a0_0 + 1))) (wrap64 (Int.tdiv x84_4 (wrap64 (a0_0 + 1)))) ji62 l0_2 (l0_2.length : Int) x84_4 a0_0 a0_1 l0_2 a0_0 a0_1 x127002_4) = some (r1, r2, r3, r4, r5, r6) := by first | (rw [hji62] at H; exact H) | (simp only [hji62] at H ⊢; exact H)
                     (try rw [hji62] at A61)
                     have hji62_ : (if (wrap64 (x15_28 + t129)) < (rd l0_2 x84_4) then (wrap64 (x15_28 + t129)) else (rd l0_2 x84_4)) = ji62 := hji62
                     have H' := Aside0.mk H
                     clear H
                     go_wp2_with (first | ((with_reducible refine gate_callee (f := 45) rfl ?_); refine goesL_ (some 116) rfl rfl Try.func45 (by kernel_rfl) rfl #[.int .i64 a1, .int .i64 a2, .int .i64 (Int.tmod x84_4 (wrap64 (a0_0 + 1))), .int .i64 (wrap64 (Int.tdiv x84_4 (wrap64 (a0_0 + 1))))] rfl tA_ ?_; (with_reducible refine (land_far.calls a1 a2 (Int.tmod x84_4 (wrap64 (a0_0 + 1))) (wrap64 (Int.tdiv x84_4 (wrap64 (a0_0 + 1)))) t129 _ A61.out).mono ?_); rintro e w63 ⟨rfl, hb⟩; refine ⟨_, rfl, ?_⟩; replace HO_17 := Aside0.mk (Kd.R_below (dR_ HO_17) hb); replace HO_127002 := Aside0.mk (Kd.R_below (dR_ HO_127002) hb); replace BK119 := Aside0.mk (blk_below (g := gb119) (o := .cells #[.int .i64 a0_0, .int .i64 a0_1, .slice (some ad122) l0_2.length c0_2] 24 (0, 0)) (dB_ BK119) hb); replace BK120 := Aside0.mk (blk_below (g := gb120) (o := .cells #[.int .i64 0, .int .i64 0, .slice none 0 0] 24 (0, 0)) (dB_ BK120) hb); replace BK126 := Aside0.mk (blk_below (g := gb126) (o := .cells #[.int .i64 a0_0, .int .i64 a0_1, u127002] 24 (0, 0)) (dB_ BK126) hb); replace HB := Aside0.mk (below_step (dL3_ HB GE119 GE120 GE126) hb)))
                     go_meet
                     case rel => exact ⟨_, (ji62), (by first | rfl | (simp; done) | (simp only [← hji62]; rw [shl_one_small _ (by assumption) (by omega)]; done) | (simp only [← hji62] <;> (first | rfl | simp)) | (simp [*]; done) | (refine congrArg (Value.int .i64) ?_; unfold wrap64; omega) | (simp only [shl_one_small _ (by assumption) (by omega)]; done) | (simp [*]; rw [shl_one_small _ (by assumption) (by omega)]; done)), H', ⟨by have := HJ7.out; have := HJ28.out; have := HJ32.out; have := HK4.out; first | omega | exact Nat.le_refl _⟩, ⟨dR_ HO_17⟩, ⟨dR_ HO_127002⟩, ⟨dB_ BK119⟩, ⟨dB_ BK120⟩, ⟨dB_ BK126⟩, ⟨dL3_ HB GE119 GE120 GE126⟩⟩
                   case rest =>
                    clear HC55
                    try clear c4
                    try clear c7
                    try clear c7b0
                    try clear c7b1
                    try clear c14
                    try clear c15
                    try clear c18
                    try clear c23
                    try clear c27
                    try clear c27b0
                    try clear c28
                    try clear c28b0
                    try clear c34
                    try clear c35
                    try clear c38
                    try clear c51
                    try clear c51b0
                    try clear c52
                    try clear c52b0
                    try clear c53
                    try clear c53b0
                    try clear c54
                    try clear c54b0
                    try clear c54b1
                    try clear hcz12_0
                    try clear hcz12_1
                    try clear hcz12_2
                    try clear hcz31_0
                    try clear hcz31_1
                    try clear hcz31_2
                    try clear hcz50_0
                    try clear hcz50_1
                    try clear hcz50_2
                    try clear hfz12_0
                    try clear hfz12_1
                    try clear hfz12_2
                    try clear hfz31_0
                    try clear hfz31_1
                    try clear hfz31_2
                    try clear hfz50_0
                    try clear hfz50_1
                    try clear hfz50_2
                    try clear hx122_0
                    try clear hx127_0
                    try clear p122
                    try clear p127
                    try clear q122
                    try clear q127
                    obtain ⟨kq, x23_54, rfl, HA, HJ54, HO_17, HO_127002, BK119, BK120, BK126, HB⟩ := hcut
                    cases kq with
                    | zero => exact absurd HA.out (by simp [land_Shift.j4])
                    | succ kj54 =>
                     have H := HA.out
                     clear HA
                     simp only [land_Shift.j4] at H
                     by_cases c64 : x23_54 = (rd l0_2 x84_4)
                     ·rw [if_pos c64] at H
                      have c64b0 : (x23_54 == (rd l0_2 x84_4)) = true := beq_iff_eq.mpr c64
                      have c64b1 : (x23_54 != (rd l0_2 x84_4)) = false := bne_eq_false_iff_eq.mpr c64
                      clear c64
                      have H' := Aside0.mk H
                      clear H
                      go_wp2
                      go_roundg kj54
                      case measure => have := HJ7.out; have := HJ28.out; have := HJ32.out; have := HK4.out; have := HJ54.out; omega
                      case rel => exact ⟨(x17_4), (x18_4), (wrap64 (x84_4 + 1)), (x127002_4), (u127002), tS_, tS_, H', ⟨by have := HJ7.out; have := HJ28.out; have := HJ32.out; have := HK4.out; have := HJ54.out; omega⟩, ⟨dR_ HO_17⟩, ⟨dR_ HO_127002⟩, ⟨dB_ BK119⟩, ⟨dB_ BK120⟩, ⟨dB_ BK126⟩, ⟨dL3_ HB GE119 GE120 GE126⟩⟩
                     ·rw [if_neg c64] at H
                      have c64b0 : (x23_54 == (rd l0_2 x84_4)) = false := beq_eq_false_iff_ne.mpr c64
                      have c64b1 : (x23_54 != (rd l0_2 x84_4)) = true := bne_iff_ne.mpr c64
                      by_cases c65 : 0 ≤ x84_4
                      ·rw [if_pos c65] at H
                       have c65b0 : decide (0 ≤ x84_4) = true := decide_eq_true c65
                       clear c65
                       by_cases c66 : x84_4 < (x127002_4.length : Int)
                       ·rw [if_pos c66] at H
                        have c66b0 : decide (x84_4 < (x127002_4.length : Int)) = true := decide_eq_true c66
                        clear c66
                        obtain ⟨y130, hy130⟩ : ∃ y_ : List Int, y_ = (x127002_4.set (x84_4 : Int).toNat x23_54) := ⟨_, rfl⟩
                        replace H : (if x17_4.length < 5864062014805 then (land_Shift.l0 kj54 a1 a2 a3 l4 x15_28 (x17_4 ++ [(⟨(Int.tmod x84_4 (wrap64 (a0_0 + 1))), (wrap64 (Int.tdiv x84_4 (wrap64 (a0_0 + 1)))), x23_54⟩ : S36)]) (wrap64 (x18_4 + (wrap64 ((mx (wrap64 (x23_54 - (rd l0_2 x84_4))) (wrap64 ((rd l0_2 x84_4) - x23_54))) * 250)))) l0_2 (l0_2.length : Int) (wrap64 (x84_4 + 1)) a0_0 a0_1 l0_2 a0_0 a0_1 y130) else (none)) = some (r1, r2, r3, r4, r5, r6) := by first | (rw [hy130]; with_reducible exact H) | (have H2_ := (Option.bind_some _ _).symm.trans H; rw [hy130]; with_reducible exact H2_) | (have H2_ := (Option.bind_some _ _).symm.trans H; with_reducible exact H2_) | with_reducible exact H | (rw [hy130]; exact H) | exact H
                        have Ny130 := Aside0.mk hy130
                        clear hy130
                        by_cases c68 : x17_4.length < 5864062014805
                        ·rw [if_pos c68] at H
                         have LMc68 := Aside0.mk c68
                         clear c68
                         obtain ⟨y131, hy131⟩ : ∃ y_ : List (S36), y_ = (x17_4 ++ [(⟨(Int.tmod x84_4 (wrap64 (a0_0 + 1))), (wrap64 (Int.tdiv x84_4 (wrap64 (a0_0 + 1)))), x23_54⟩ : S36)]) := ⟨_, rfl⟩
                         replace H : (land_Shift.l0 kj54 a1 a2 a3 l4 x15_28 y131 (wrap64 (x18_4 + (wrap64 ((mx (wrap64 (x23_54 - (rd l0_2 x84_4))) (wrap64 ((rd l0_2 x84_4) - x23_54))) * 250)))) l0_2 (l0_2.length : Int) (wrap64 (x84_4 + 1)) a0_0 a0_1 l0_2 a0_0 a0_1 y130) = some (r1, r2, r3, r4, r5, r6) := by first | (rw [hy131]; with_reducible exact H) | (have H2_ := (Option.bind_some _ _).symm.trans H; rw [hy131]; with_reducible exact H2_) | (have H2_ := (Option.bind_some _ _).symm.trans H; with_reducible exact H2_) | with_reducible exact H | (rw [hy131]; exact H) | exact H
                         have Ny131 := Aside0.mk hy131
                         clear hy131
                         obtain ⟨ji69, hji69⟩ : ∃ j_ : Int, (mx (wrap64 (x23_54 - (rd l0_2 x84_4))) (wrap64 ((rd l0_2 x84_4) - x23_54))) = j_ := ⟨_, rfl⟩
                         replace H : (land_Shift.l0 kj54 a1 a2 a3 l4 x15_28 y131 (wrap64 (x18_4 + (wrap64 ((ji69) * 250)))) l0_2 (l0_2.length : Int) (wrap64 (x84_4 + 1)) a0_0 a0_1 l0_2 a0_0 a0_1 y130) = some (r1, r2, r3, r4, r5, r6) := by first | (rw [hji69] at H; exact H) | (simp only [hji69] at H ⊢; exact H)
                         have hji69_ : (if (wrap64 (x23_54 - (rd l0_2 x84_4))) < (wrap64 ((rd l0_2 x84_4) - x23_54)) then (wrap64 ((rd l0_2 x84_4) - x23_54)) else (wrap64 (x23_54 - (rd l0_2 x84_4)))) = ji69 := hji69
                         have H' := Aside0.mk H
                         clear H
                         have hnb70 := NB126_119.out
                         have hnc70 := NB119_126.out
                         have hnb71 := NB126_120.out
                         have hnc71 := NB120_126.out
                         obtain ⟨hcz72_0, hcz72_1, hcz72_2, hfz72_0, hfz72_1, hfz72_2⟩ := cs3_ BK126.out
                         have p67 : 0 ≤ (x84_4 : Int) := of_decide_eq_true tW_
                         have q67 : (x84_4 : Int) < ((x127002_4.length : Int) : Int) := of_decide_eq_true tW_
                         obtain ⟨go67, co67, eo67, gb67, gl67, cl67, HG67⟩ := Kd.R_form HO_127002.out (by omega)
                         (first | cases eo67 | (injection eo67 with ea_ en_ ec_; (first | subst ea_ | (injection ea_ with ea_; subst ea_)); subst ec_; clear en_))
                         have GB67 := Aside0.mk gb67
                         have GG67 := Aside0.mk HG67
                         clear gb67 gl67 HG67
                         obtain ⟨hx67_0, hf67_0⟩ := Kd.R_celln 0 HO_127002.out (x84_4 : Int) p67 q67
                         replace p67 := eq_true p67
                         replace q67 := eq_true q67
                         have HP73 := Kd.R_putg HO_127002.out (x84_4 : Int) x23_54
                         go_wp2_with (first | ((with_reducible refine gate_store (t := 3) (p := 126) rfl ?_); refine store_event (t := 3) (p := 126) (v := ?vo_w74) (w1 := (wc.setCell ⟨go67, (x84_4 : Int).toNat, none⟩ (.int .i64 x23_54))) ?hg ?ho ?hn ?hr ?_; (case ho => rfl); (case hg => rfl); (case hn => rfl); (case hr => first | (go_simp; done) | (go_simp; rfl)); intro w74 hw; have hg : wc.grownBy w74 (some go67) := (by rw [hw]; exact HP73.2); have hp_ : Kd.R (Kd.int .i64) 3 w74 w.heap.size (fun _ => True) (.slice (some ⟨go67, 0, none⟩) x127002_4.length co67) y130 := (by rw [hw, Ny130.out]; exact HP73.1); clear HP73; replace HO_17 := Aside0.mk (Kd.R_over' (v := (.slice (some ⟨go67, 0, none⟩) x127002_4.length co67)) (dR_ HO_17) (Kd.R_typed HO_127002.out) (by decide) hg); replace BK119 := Aside0.mk (blk_grown (g := gb119) (o := .cells #[.int .i64 a0_0, .int .i64 a0_1, .slice (some ad122) l0_2.length c0_2] 24 (0, 0)) (dB_ BK119) hg (Kd.R_ne HO_127002.out BK119.out (by decide))); replace BK120 := Aside0.mk (blk_grown (g := gb120) (o := .cells #[.int .i64 0, .int .i64 0, .slice none 0 0] 24 (0, 0)) (dB_ BK120) hg (Kd.R_ne HO_127002.out BK120.out (by decide))); replace BK126 := Aside0.mk (blk_grown (g := gb126) (o := .cells #[.int .i64 a0_0, .int .i64 a0_1, .slice (some ⟨go67, 0, none⟩) x127002_4.length co67] 24 (0, 0)) (dB_ BK126) hg (Kd.R_ne HO_127002.out BK126.out (by decide))); replace HO_127002 := Aside0.mk (hp_); replace HB := Aside0.mk ((by rw [hw]; exact below_set (HB.out) GB67.out : Below w.heap.size w w74)); clear hg hw hp_) | ((with_reducible refine gate_builtin (b := .append) (xs := #[.tmp 127, .tmp 132]) rfl ?_); at_builtin; refine Kd.R_append k36 (w0 := w) w.heap.size rfl (.tmp 127) (.tmp 132) 30 36 (.agg #[(.int .i64 0), (.int .i64 0), (.int .i64 0)]) 24 rfl Try.underlying30 info36 rfl (by decide) (by omega) u17 x17_4 (⟨(Int.tmod x84_4 (wrap64 (a0_0 + 1))), (wrap64 (Int.tdiv x84_4 (wrap64 (a0_0 + 1)))), x23_54⟩ : S36) [.int .i64 (Int.tmod x84_4 (wrap64 (a0_0 + 1))), .int .i64 (wrap64 (Int.tdiv x84_4 (wrap64 (a0_0 + 1)))), .int .i64 x23_54] (fun _ => True) (fun _ => False) rfl rfl ?aP (fun _ hk => hk.elim) ?aF ?aO ?aB ?aS ?aL ?_; (case aP => exact k36_mkM _ _ _ (⟨(Int.tmod x84_4 (wrap64 (a0_0 + 1))), (wrap64 (Int.tdiv x84_4 (wrap64 (a0_0 + 1)))), x23_54⟩ : S36)); (case aB => exact (dL3_ HB GE119 GE120 GE126)); (case aF => exact (fun _ _ => trivial)); (case aO => exact (dR_ HO_17)); (case aS => exact (below_size (dL3_ HB GE119 GE120 GE126))); (case aL => have := LMc68.out; omega); intro v132 w75 ho hb hg hat; rw [← Ny131.out] at ho; replace HO_127002 := Aside0.mk (Kd.R_over' (dR_ HO_127002) (Kd.R_typed (dR_ HO_17)) (by decide) hg); replace BK119 := Aside0.mk (blk_grown (g := gb119) (o := .cells #[.int .i64 a0_0, .int .i64 a0_1, .slice (some ad122) l0_2.length c0_2] 24 (0, 0)) (dB_ BK119) hg (Kd.R_ne HO_17.out BK119.out (by decide))); replace BK120 := Aside0.mk (blk_grown (g := gb120) (o := .cells #[.int .i64 0, .int .i64 0, .slice none 0 0] 24 (0, 0)) (dB_ BK120) hg (Kd.R_ne HO_17.out BK120.out (by decide))); replace BK126 := Aside0.mk (blk_grown (g := gb126) (o := .cells #[.int .i64 a0_0, .int .i64 a0_1, .slice (some ⟨go67, 0, none⟩) x127002_4.length co67] 24 (0, 0)) (dB_ BK126) hg (Kd.R_ne HO_17.out BK126.out (by decide))); replace HB := Aside0.mk (hb); have HO133 := Aside0.mk (ho); clear HO_17; clear ho hb hg hat))
                         go_roundg kj54
                         case measure => have := HJ7.out; have := HJ28.out; have := HJ32.out; have := HK4.out; have := HJ54.out; omega
                         case rel => exact ⟨(y131), (wrap64 (x18_4 + (wrap64 ((ji69) * 250)))), (wrap64 (x84_4 + 1)), (y130), (.slice (some ⟨go67, 0, none⟩) x127002_4.length co67), (by first | rfl | (simp; done) | (simp only [← hji69]; rw [shl_one_small _ (by assumption) (by omega)]; done) | (simp only [← hji69] <;> (first | rfl | simp)) | (simp [*]; done) | (refine congrArg (Value.int .i64) ?_; unfold wrap64; omega) | (simp only [shl_one_small _ (by assumption) (by omega)]; done) | (simp [*]; rw [shl_one_small _ (by assumption) (by omega)]; done)), tS_, H', ⟨by have := HJ7.out; have := HJ28.out; have := HJ32.out; have := HK4.out; have := HJ54.out; omega⟩, ⟨dR_ HO133⟩, ⟨dR_ HO_127002⟩, ⟨dB_ BK119⟩, ⟨dB_ BK120⟩, ⟨dB_ BK126⟩, ⟨dL3_ HB GE119 GE120 GE126⟩⟩
                        ·rw [if_neg c68] at H
                         exact absurd H (by simp)
                       ·rw [if_neg c66] at H
                        exact absurd H (by simp)
                      ·rw [if_neg c65] at H
                       exact absurd H (by simp)
                 ·rw [if_neg c53] at H
                  exact absurd H (by simp)
                ·rw [if_neg c52] at H
                 exact absurd H (by simp)
               ·rw [if_neg c51] at H
                have c51b0 : decide (x84_4 < (l0_2.length : Int)) = false := decide_eq_false c51
                clear c51
                have H' := Aside0.mk H
                clear H
                go_wp2
                go_loopg [147] k4 (fun kq v147 w' => ∃ (x147_5 : Int) (x121000_5 : Int) (x121001_5 : Int), v147 = .int .i64 x147_5 ∧ Aside0 (land_Shift.l1 kq x17_4 x18_4 l4 (l4.length : Int) x147_5 a0_0 a0_1 l0_2 a0_0 a0_1 x127002_4 = some (r1, r2, r3, r4, r5, r6)) ∧ Aside0 (kq ≤ k4) ∧ Aside0 (Kd.R k36 36 w' w.heap.size (fun _ => True) u17 x17_4) ∧ Aside0 (Kd.R (Kd.int .i64) 3 w' w.heap.size (fun _ => True) u127002 x127002_4) ∧ Aside0 (w'.heap[gb119]? = some (.cells #[.int .i64 a0_0, .int .i64 a0_1, (.slice (some ad122) l0_2.length c0_2)] 24 (0, 0))) ∧ Aside0 (w'.heap[gb120]? = some (.cells #[.int .i64 x121000_5, .int .i64 x121001_5, (.slice none 0 0)] 24 (0, 0))) ∧ Aside0 (w'.heap[gb126]? = some (.cells #[.int .i64 a0_0, .int .i64 a0_1, u127002] 24 (0, 0))) ∧ Aside0 (Below w.heap.size w w'))
                case atStart => exact ⟨(0), (0), (0), tS_, H', ⟨Nat.le_refl _⟩, ⟨dR_ HO_17⟩, ⟨dR_ HO_127002⟩, ⟨dB_ BK119⟩, ⟨dB_ BK120⟩, ⟨dB_ BK126⟩, ⟨dL3_ HB GE119 GE120 GE126⟩⟩
                case round =>
                 clear H'
                 try clear c4
                 try clear c7
                 try clear c7b0
                 try clear c7b1
                 try clear c14
                 try clear c15
                 try clear c18
                 try clear c23
                 try clear c27
                 try clear c27b0
                 try clear c28
                 try clear c28b0
                 try clear c34
                 try clear c35
                 try clear c38
                 try clear c51
                 try clear c51b0
                 try clear c52
                 try clear c53
                 try clear c54
                 try clear c64
                 try clear c65
                 try clear c66
                 try clear c68
                 try clear hcz12_0
                 try clear hcz12_1
                 try clear hcz12_2
                 try clear hcz31_0
                 try clear hcz31_1
                 try clear hcz31_2
                 try clear hcz50_0
                 try clear hcz50_1
                 try clear hcz50_2
                 try clear hfz12_0
                 try clear hfz12_1
                 try clear hfz12_2
                 try clear hfz31_0
                 try clear hfz31_1
                 try clear hfz31_2
                 try clear hfz50_0
                 try clear hfz50_1
                 try clear hfz50_2
                 try clear hx122_0
                 try clear p122
                 try clear q122
                 obtain ⟨x147_5, x121000_5, x121001_5, rfl, HA, HK5, HO_17, HO_127002, BK119, BK120, BK126, HB⟩ := hrel
                 cases gk with
                 | zero => exact absurd HA.out (by simp [land_Shift.l1])
                 | succ k5 =>
                  have H := HA.out
                  clear HA
                  simp only [land_Shift.l1] at H
                  by_cases c76 : x147_5 < (l4.length : Int)
                  ·rw [if_pos c76] at H
                   have c76b0 : decide (x147_5 < (l4.length : Int)) = true := decide_eq_true c76
                   clear c76
                   by_cases c77 : 0 ≤ x147_5
                   ·rw [if_pos c77] at H
                    have c77b0 : decide (0 ≤ x147_5) = true := decide_eq_true c77
                    clear c77
                    by_cases c78 : x147_5 < (l4.length : Int)
                    ·rw [if_pos c78] at H
                     have c78b0 : decide (x147_5 < (l4.length : Int)) = true := decide_eq_true c78
                     clear c78
                     have HC79 := Aside0.mk H
                     clear H
                     have p134 : 0 ≤ (x147_5 : Int) := of_decide_eq_true tW_
                     have q134 : x147_5 < (l4.length : Int) := of_decide_eq_true tW_
                     obtain ⟨ad134, e134, hx134_0⟩ := Kd.at_int HR4.out x147_5 p134 q134
                     cases e134
                     replace hx134_0 := bc_ HB hx134_0
                     replace p134 := eq_true p134
                     replace q134 := eq_true q134
                     go_upto_region 30 with (fail)
                     go_cut [162] (fun v162 wc => ∃ (kq : Nat) (x162_78 : Bool), v162 = .bool x162_78 ∧ Aside0 (land_Shift.j6 kq x17_4 x18_4 l4 (l4.length : Int) x147_5 x162_78 a0_0 a0_1 l0_2 a0_0 a0_1 x127002_4 = some (r1, r2, r3, r4, r5, r6)) ∧ Aside0 (kq ≤ k5) ∧ Aside0 (Kd.R k36 36 wc w.heap.size (fun _ => True) u17 x17_4) ∧ Aside0 (Kd.R (Kd.int .i64) 3 wc w.heap.size (fun _ => True) u127002 x127002_4) ∧ Aside0 (wc.heap[gb119]? = some (.cells #[.int .i64 a0_0, .int .i64 a0_1, (.slice (some ad122) l0_2.length c0_2)] 24 (0, 0))) ∧ Aside0 (wc.heap[gb120]? = some (.cells #[.int .i64 x121000_5, .int .i64 x121001_5, (.slice none 0 0)] 24 (0, 0))) ∧ Aside0 (wc.heap[gb126]? = some (.cells #[.int .i64 a0_0, .int .i64 a0_1, u127002] 24 (0, 0))) ∧ Aside0 (Below w.heap.size w wc))
                     case first =>
                      have H := HC79.out
                      clear HC79
                      replace H := Option.bind_eq_some_iff.mp H
                      obtain ⟨t135, A800, H⟩ := H
                      replace H : (if t135 = true then ((land_four.f a0_0 a0_1 l0_2 (rd l4 x147_5)).bind fun bt136 => ((land_four.f a0_0 a0_1 x127002_4 (rd l4 x147_5)).bind fun bt140 => (land_Shift.j6 k5 x17_4 x18_4 l4 (l4.length : Int) x147_5 (!(bt136.1 == bt140.1) || (!(bt136.2.1 == bt140.2.1) || (!(bt136.2.2.1 == bt140.2.2.1) || (!(bt136.2.2.2 == bt140.2.2.2))))) a0_0 a0_1 l0_2 a0_0 a0_1 x127002_4))) else (land_Shift.j6 k5 x17_4 x18_4 l4 (l4.length : Int) x147_5 false a0_0 a0_1 l0_2 a0_0 a0_1 x127002_4)) = some (r1, r2, r3, r4, r5, r6) := H
                      have A80 := Aside0.mk A800
                      clear A800
                      by_cases c81 : t135 = true
                      ·subst c81
                       have H1 : ((land_four.f a0_0 a0_1 l0_2 (rd l4 x147_5)).bind fun bt136 => ((land_four.f a0_0 a0_1 x127002_4 (rd l4 x147_5)).bind fun bt140 => (land_Shift.j6 k5 x17_4 x18_4 l4 (l4.length : Int) x147_5 (!(bt136.1 == bt140.1) || (!(bt136.2.1 == bt140.2.1) || (!(bt136.2.2.1 == bt140.2.2.1) || (!(bt136.2.2.2 == bt140.2.2.2))))) a0_0 a0_1 l0_2 a0_0 a0_1 x127002_4))) = some (r1, r2, r3, r4, r5, r6) := by rw [if_pos rfl] at H; exact H
                       clear H
                       have H := H1
                       clear H1
                       replace H := Option.bind_eq_some_iff.mp H
                       obtain ⟨⟨t136, t137, t138, t139⟩, A820, H⟩ := H
                       replace H : ((land_four.f a0_0 a0_1 x127002_4 (rd l4 x147_5)).bind fun bt140 => (land_Shift.j6 k5 x17_4 x18_4 l4 (l4.length : Int) x147_5 (!(t136 == bt140.1) || (!(t137 == bt140.2.1) || (!(t138 == bt140.2.2.1) || (!(t139 == bt140.2.2.2))))) a0_0 a0_1 l0_2 a0_0 a0_1 x127002_4)) = some (r1, r2, r3, r4, r5, r6) := H
                       have A82 := Aside0.mk A820
                       clear A820
                       replace H := Option.bind_eq_some_iff.mp H
                       obtain ⟨⟨t140, t141, t142, t143⟩, A830, H⟩ := H
                       replace H : (land_Shift.j6 k5 x17_4 x18_4 l4 (l4.length : Int) x147_5 (!(t136 == t140) || (!(t137 == t141) || (!(t138 == t142) || (!(t139 == t143))))) a0_0 a0_1 l0_2 a0_0 a0_1 x127002_4) = some (r1, r2, r3, r4, r5, r6) := H
                       have A83 := Aside0.mk A830
                       clear A830
                       have H' := Aside0.mk H
                       clear H
                       try go_wp2
                       replace HO_17 := Aside0.mk (Kd.R_drew HO_17.out)
                       replace HO_127002 := Aside0.mk (Kd.R_drew HO_127002.out)
                       replace BK119 := Aside0.mk (blk_drew BK119.out)
                       replace BK120 := Aside0.mk (blk_drew BK120.out)
                       replace BK126 := Aside0.mk (blk_drew BK126.out)
                       replace HB := Aside0.mk (below_drew1 HB.out)
                       refine start_ (n := 12) (S := fun w' => w'.cell? ⟨gb119, 0, none⟩ = some (.int .i64 a0_0) ∧ w'.cell? ⟨gb119, 1, none⟩ = some (.int .i64 a0_1) ∧ w'.cell? ⟨gb119, 2, none⟩ = some (.slice (some ad122) l0_2.length c0_2) ∧ w'.cell? ⟨gb126, 0, none⟩ = some (.int .i64 a0_0) ∧ w'.cell? ⟨gb126, 1, none⟩ = some (.int .i64 a0_1) ∧ w'.cell? ⟨gb126, 2, none⟩ = some (u127002)) (ds := []) #[false, false, false, false, false, false, false, false, false, false, false, false] (by kernel_rfl) rfl rfl ⟨(blk_cell BK119.out 0).trans rfl, (blk_cell BK119.out 1).trans rfl, (blk_cell BK119.out 2).trans rfl, (blk_cell BK126.out 0).trans rfl, (blk_cell BK126.out 1).trans rfl, (blk_cell BK126.out 2).trans rfl⟩ (fun hHeld => ?_); refine with_tabW land_Shift.tab30 land_Shift.bits30 (fun HT_ HW_ => ?_)
                       generalize wr.drew = w84 at HO_17 HO_127002 BK119 BK120 BK126 HB hHeld ⊢
                       refine pure_ (i := 1) (N := some 152) (v := ?_) (a' := ?_) #[false, true, false, false, false, false, false, false, false, false, false, false] rfl rfl (any_of HT_.out (by kernel_rfl)) (fun _ _ _ h => h) (Or.inl ⟨by rfl, ?_⟩) ?_ ?_; rotate_left; (intro w'; go_simp; with_reducible rfl); rotate_left; (simp only [Act.put, sI_, s0_, sS_, i64_w, i32_w]; rfl)
                       refine take_ (i := 0) (N := some 151) (v := ?_) (a' := ?_) (bA 2 12) rfl rfl (take_ofW HT_.out HW_.out (by kernel_rfl)) (fun _ _ _ h => h) (Or.inl ⟨by rfl, ?_⟩) hHeld ?_ ?_; rotate_left; (rintro w' ⟨s0, s1, s2, s3, s4, s5⟩; go_simp; with_reducible rfl); rotate_left; (simp only [Act.put, sI_, s0_, sS_, i64_w, i32_w]; rfl)
                       refine one_ (i := 2) (N := some 153) (bA 3 12) rfl rfl (one_of HT_.out (by kernel_rfl)) (by decide) (fun K hK => ?_)
                       refine goes_ Try.func46 (by kernel_rfl) rfl #[.agg #[.int .i64 a0_0, .int .i64 a0_1, .slice (some ad122) l0_2.length c0_2], .int .i64 (rd l4 x147_5)] (by rfl) rfl rfl tA_ ?_
                       with_reducible refine (land_isTile.calls a0_0 a0_1 _ _ l0_2 (rd l4 x147_5) true _ ?side1 ?side2 A80.out).mono ?_
                       (case side1 => exact dC_ HR0_2 HB)
                       (case side2 => exact HC0_2.out)
                       rintro e w85 ⟨rfl, hb⟩
                       refine ⟨_, rfl, ?_⟩
                       replace HO_17 := Aside0.mk (Kd.R_below (dR_ HO_17) hb)
                       replace HO_127002 := Aside0.mk (Kd.R_below (dR_ HO_127002) hb)
                       replace BK119 := Aside0.mk (blk_below (g := gb119) (o := .cells #[.int .i64 a0_0, .int .i64 a0_1, .slice (some ad122) l0_2.length c0_2] 24 (0, 0)) (dB_ BK119) hb)
                       replace BK120 := Aside0.mk (blk_below (g := gb120) (o := .cells #[.int .i64 x121000_5, .int .i64 x121001_5, .slice none 0 0] 24 (0, 0)) (dB_ BK120) hb)
                       replace BK126 := Aside0.mk (blk_below (g := gb126) (o := .cells #[.int .i64 a0_0, .int .i64 a0_1, u127002] 24 (0, 0)) (dB_ BK126) hb)
                       replace HB := Aside0.mk (below_step (dL3_ HB GE119 GE120 GE126) hb)
                       (try clear hb)
                       (try clear hb2)
                       (try clear hk)
                       (try clear hi)
                       refine hK.out _ _ ⟨(blk_cell BK119.out 0).trans rfl, (blk_cell BK119.out 1).trans rfl, (blk_cell BK119.out 2).trans rfl, (blk_cell BK126.out 0).trans rfl, (blk_cell BK126.out 1).trans rfl, (blk_cell BK126.out 2).trans rfl⟩ (fun hHeld => ?_)
                       clear hK K
                       refine norm_ (a' := ?_) ?_ ?_
                       rotate_left
                       ·show Act.put _ (some 153) _ = _
                        simp only [Act.put, sI_, s0_, sS_, i64_w, i32_w]
                        rfl
                       refine pure_ (i := 3) (N := some 154) (v := ?_) (a' := ?_) (bA 4 12) rfl rfl (any_of HT_.out (by kernel_rfl)) (fun _ _ _ h => h) (Or.inl ⟨by rfl, ?_⟩) ?_ ?_; rotate_left; (intro w'; go_simp; with_reducible rfl); rotate_left; (simp only [Act.put, sI_, s0_, sS_, i64_w, i32_w]; rfl)
                       refine pure_ (i := 5) (N := some 156) (v := ?_) (a' := ?_) #[true, true, true, true, false, true, false, false, false, false, false, false] rfl rfl (any_of HT_.out (by kernel_rfl)) (fun _ _ _ h => h) (Or.inl ⟨by rfl, ?_⟩) ?_ ?_; rotate_left; (intro w'; go_simp; with_reducible rfl); rotate_left; (simp only [Act.put, sI_, s0_, sS_, i64_w, i32_w]; rfl)
                       refine pure_ (i := 8) (N := some 159) (v := ?_) (a' := ?_) #[true, true, true, true, false, true, false, false, true, false, false, false] rfl rfl (any_of HT_.out (by kernel_rfl)) (fun _ _ _ h => h) (Or.inl ⟨by rfl, ?_⟩) ?_ ?_; rotate_left; (intro w'; go_simp; with_reducible rfl); rotate_left; (simp only [Act.put, sI_, s0_, sS_, i64_w, i32_w]; rfl)
                       refine take_ (i := 4) (N := some 155) (v := ?_) (a' := ?_) #[true, true, true, true, true, true, false, false, true, false, false, false] rfl rfl (take_ofW HT_.out HW_.out (by kernel_rfl)) (fun _ _ _ h => h) (Or.inl ⟨by rfl, ?_⟩) hHeld ?_ ?_; rotate_left; (rintro w' ⟨s0, s1, s2, s3, s4, s5⟩; go_simp; with_reducible rfl); rotate_left; (simp only [Act.put, sI_, s0_, sS_, i64_w, i32_w]; rfl)
                       refine take_ (i := 7) (N := some 158) (v := ?_) (a' := ?_) #[true, true, true, true, true, true, false, true, true, false, false, false] rfl rfl (take_ofW HT_.out HW_.out (by kernel_rfl)) (fun _ _ _ h => h) (Or.inl ⟨by rfl, ?_⟩) hHeld ?_ ?_; rotate_left; (rintro w' ⟨s0, s1, s2, s3, s4, s5⟩; go_simp; with_reducible rfl); rotate_left; (simp only [Act.put, sI_, s0_, sS_, i64_w, i32_w]; rfl)
                       refine one_ (i := 6) (N := some 157) (bA 9 12) rfl rfl (one_of HT_.out (by kernel_rfl)) (by decide) (fun K hK => ?_)
                       refine goes_ Try.func47 (by kernel_rfl) rfl #[.agg #[.int .i64 a0_0, .int .i64 a0_1, .slice (some ad122) l0_2.length c0_2], .int .i64 (rd l4 x147_5)] (by rfl) rfl rfl tA_ ?_
                       with_reducible refine (land_four.calls a0_0 a0_1 _ _ l0_2 (rd l4 x147_5) t136 t137 t138 t139 _ ?side1 ?side2 A82.out).mono ?_
                       (case side1 => exact dC_ HR0_2 HB)
                       (case side2 => exact HC0_2.out)
                       rintro e w86 ⟨rfl, hb⟩
                       refine ⟨_, rfl, ?_⟩
                       replace HO_17 := Aside0.mk (Kd.R_below (dR_ HO_17) hb)
                       replace HO_127002 := Aside0.mk (Kd.R_below (dR_ HO_127002) hb)
                       replace BK119 := Aside0.mk (blk_below (g := gb119) (o := .cells #[.int .i64 a0_0, .int .i64 a0_1, .slice (some ad122) l0_2.length c0_2] 24 (0, 0)) (dB_ BK119) hb)
                       replace BK120 := Aside0.mk (blk_below (g := gb120) (o := .cells #[.int .i64 x121000_5, .int .i64 x121001_5, .slice none 0 0] 24 (0, 0)) (dB_ BK120) hb)
                       replace BK126 := Aside0.mk (blk_below (g := gb126) (o := .cells #[.int .i64 a0_0, .int .i64 a0_1, u127002] 24 (0, 0)) (dB_ BK126) hb)
                       replace HB := Aside0.mk (below_step (dL3_ HB GE119 GE120 GE126) hb)
                       (try clear hb)
                       (try clear hb2)
                       (try clear hk)
                       (try clear hi)
                       obtain ⟨Ao87, co87, eo87⟩ := Kd.R_slice HO_127002.out
                       (first | subst eo87 | (injection eo87 with f1_ f2_ f3_; have f4_ := f1_.symm; have f5_ := f3_.symm; clear f1_ f2_ f3_; subst f4_; subst f5_))
                       refine hK.out _ _ ⟨(blk_cell BK119.out 0).trans rfl, (blk_cell BK119.out 1).trans rfl, (blk_cell BK119.out 2).trans rfl, (blk_cell BK126.out 0).trans rfl, (blk_cell BK126.out 1).trans rfl, (blk_cell BK126.out 2).trans rfl⟩ (fun hHeld => ?_)
                       clear hK K
                       refine norm_ (a' := ?_) ?_ ?_
                       rotate_left
                       ·show Act.put _ (some 157) _ = _
                        simp only [Act.put, sI_, s0_, sS_, i64_w, i32_w]
                        rfl
                       refine one_ (i := 9) (N := some 160) (bA 10 12) rfl rfl (one_of HT_.out (by kernel_rfl)) (by decide) (fun K hK => ?_)
                       refine goes_ Try.func47 (by kernel_rfl) rfl #[.agg #[.int .i64 a0_0, .int .i64 a0_1, .slice Ao87 x127002_4.length co87], .int .i64 (rd l4 x147_5)] (by rfl) rfl rfl tA_ ?_
                       with_reducible refine (land_four.calls a0_0 a0_1 _ _ x127002_4 (rd l4 x147_5) t140 t141 t142 t143 _ ?side1 ?side2 A83.out).mono ?_
                       (case side1 => repeat (first | exact (Kd.R_reads' HO_127002.out).2.2 | (with_reducible refine Kd.C_alloc ?_ _) | (with_reducible refine Kd.C_drewN ?_ _) | (with_reducible refine Kd.C_drew ?_)))
                       (case side2 => exact (Kd.R_reads' HO_127002.out).2.1)
                       rintro e w88 ⟨rfl, hb⟩
                       refine ⟨_, rfl, ?_⟩
                       replace HO_17 := Aside0.mk (Kd.R_below (dR_ HO_17) hb)
                       replace HO_127002 := Aside0.mk (Kd.R_below (dR_ HO_127002) hb)
                       replace BK119 := Aside0.mk (blk_below (g := gb119) (o := .cells #[.int .i64 a0_0, .int .i64 a0_1, .slice (some ad122) l0_2.length c0_2] 24 (0, 0)) (dB_ BK119) hb)
                       replace BK120 := Aside0.mk (blk_below (g := gb120) (o := .cells #[.int .i64 x121000_5, .int .i64 x121001_5, .slice none 0 0] 24 (0, 0)) (dB_ BK120) hb)
                       replace BK126 := Aside0.mk (blk_below (g := gb126) (o := .cells #[.int .i64 a0_0, .int .i64 a0_1, .slice Ao87 x127002_4.length co87] 24 (0, 0)) (dB_ BK126) hb)
                       replace HB := Aside0.mk (below_step (dL3_ HB GE119 GE120 GE126) hb)
                       (try clear hb)
                       (try clear hb2)
                       (try clear hk)
                       (try clear hi)
                       refine hK.out _ _ ⟨(blk_cell BK119.out 0).trans rfl, (blk_cell BK119.out 1).trans rfl, (blk_cell BK119.out 2).trans rfl, (blk_cell BK126.out 0).trans rfl, (blk_cell BK126.out 1).trans rfl, (blk_cell BK126.out 2).trans rfl⟩ (fun hHeld => ?_)
                       clear hK K
                       refine norm_ (a' := ?_) ?_ ?_
                       rotate_left
                       ·show Act.put _ (some 160) _ = _
                        simp only [Act.put, sI_, s0_, sS_, i64_w, i32_w]
                        rfl
                       refine pure_ (i := 10) (N := some 161) (v := ?_) (a' := ?_) (bA 11 12) rfl rfl (any_of HT_.out (by kernel_rfl)) (fun _ _ _ h => h) (Or.inl ⟨by rfl, ?_⟩) ?_ ?_; rotate_left; (intro w'; go_simp; with_reducible rfl); rotate_left; (simp only [Act.put, sI_, s0_, sS_, i64_w, i32_w]; rfl)
                       refine pure_ (i := 11) (N := some 162) (v := ?_) (a' := ?_) (bA 12 12) rfl rfl (any_of HT_.out (by kernel_rfl)) (fun _ _ _ h => h) (Or.inl ⟨by rfl, ?_⟩) ?_ ?_; rotate_left; (intro w'; go_simp; with_reducible rfl); rotate_left; (simp only [Act.put, sI_, s0_, sS_, i64_w, i32_w]; rfl)
                       refine done_ (done_of HT_.out (by kernel_rfl)) ?_
                       try go_wp2
                       go_meet
                       case rel => exact ⟨_, ((!(t136 == t140) || (!(t137 == t141) || (!(t138 == t142) || (!(t139 == t143)))))), tS_, H', ⟨by have := HJ7.out; have := HJ28.out; have := HJ32.out; have := HK4.out; have := HK5.out; first | omega | exact Nat.le_refl _⟩, ⟨dR_ HO_17⟩, ⟨dR_ HO_127002⟩, ⟨dB_ BK119⟩, ⟨dB_ BK120⟩, ⟨dB_ BK126⟩, ⟨dL3_ HB GE119 GE120 GE126⟩⟩
                      ·replace c81 := Bool.eq_false_iff.mpr c81
                       subst c81
                       have H1 : (land_Shift.j6 k5 x17_4 x18_4 l4 (l4.length : Int) x147_5 false a0_0 a0_1 l0_2 a0_0 a0_1 x127002_4) = some (r1, r2, r3, r4, r5, r6) := by rw [if_neg (show ¬ (false = true) by decide)] at H; exact H
                       clear H
                       have H := H1
                       clear H1
                       have H' := Aside0.mk H
                       clear H
                       try go_wp2
                       replace HO_17 := Aside0.mk (Kd.R_drew HO_17.out)
                       replace HO_127002 := Aside0.mk (Kd.R_drew HO_127002.out)
                       replace BK119 := Aside0.mk (blk_drew BK119.out)
                       replace BK120 := Aside0.mk (blk_drew BK120.out)
                       replace BK126 := Aside0.mk (blk_drew BK126.out)
                       replace HB := Aside0.mk (below_drew1 HB.out)
                       refine start_ (n := 12) (S := fun w' => w'.cell? ⟨gb119, 0, none⟩ = some (.int .i64 a0_0) ∧ w'.cell? ⟨gb119, 1, none⟩ = some (.int .i64 a0_1) ∧ w'.cell? ⟨gb119, 2, none⟩ = some (.slice (some ad122) l0_2.length c0_2)) (ds := []) #[false, false, false, false, false, false, false, false, false, false, false, false] (by kernel_rfl) rfl rfl ⟨(blk_cell BK119.out 0).trans rfl, (blk_cell BK119.out 1).trans rfl, (blk_cell BK119.out 2).trans rfl⟩ (fun hHeld => ?_); refine with_tabW land_Shift.tab30 land_Shift.bits30 (fun HT_ HW_ => ?_)
                       generalize wr.drew = w89 at HO_17 HO_127002 BK119 BK120 BK126 HB hHeld ⊢
                       refine pure_ (i := 1) (N := some 152) (v := ?_) (a' := ?_) #[false, true, false, false, false, false, false, false, false, false, false, false] rfl rfl (any_of HT_.out (by kernel_rfl)) (fun _ _ _ h => h) (Or.inl ⟨by rfl, ?_⟩) ?_ ?_; rotate_left; (intro w'; go_simp; with_reducible rfl); rotate_left; (simp only [Act.put, sI_, s0_, sS_, i64_w, i32_w]; rfl)
                       refine take_ (i := 0) (N := some 151) (v := ?_) (a' := ?_) (bA 2 12) rfl rfl (take_ofW HT_.out HW_.out (by kernel_rfl)) (fun _ _ _ h => h) (Or.inl ⟨by rfl, ?_⟩) hHeld ?_ ?_; rotate_left; (rintro w' ⟨s0, s1, s2⟩; go_simp; with_reducible rfl); rotate_left; (simp only [Act.put, sI_, s0_, sS_, i64_w, i32_w]; rfl)
                       refine one_ (i := 2) (N := some 153) (bA 3 12) rfl rfl (one_of HT_.out (by kernel_rfl)) (by decide) (fun K hK => ?_)
                       refine goes_ Try.func46 (by kernel_rfl) rfl #[.agg #[.int .i64 a0_0, .int .i64 a0_1, .slice (some ad122) l0_2.length c0_2], .int .i64 (rd l4 x147_5)] (by rfl) rfl rfl tA_ ?_
                       with_reducible refine (land_isTile.calls a0_0 a0_1 _ _ l0_2 (rd l4 x147_5) false _ ?side1 ?side2 A80.out).mono ?_
                       (case side1 => exact dC_ HR0_2 HB)
                       (case side2 => exact HC0_2.out)
                       rintro e w90 ⟨rfl, hb⟩
                       refine ⟨_, rfl, ?_⟩
                       replace HO_17 := Aside0.mk (Kd.R_below (dR_ HO_17) hb)
                       replace HO_127002 := Aside0.mk (Kd.R_below (dR_ HO_127002) hb)
                       replace BK119 := Aside0.mk (blk_below (g := gb119) (o := .cells #[.int .i64 a0_0, .int .i64 a0_1, .slice (some ad122) l0_2.length c0_2] 24 (0, 0)) (dB_ BK119) hb)
                       replace BK120 := Aside0.mk (blk_below (g := gb120) (o := .cells #[.int .i64 x121000_5, .int .i64 x121001_5, .slice none 0 0] 24 (0, 0)) (dB_ BK120) hb)
                       replace BK126 := Aside0.mk (blk_below (g := gb126) (o := .cells #[.int .i64 a0_0, .int .i64 a0_1, u127002] 24 (0, 0)) (dB_ BK126) hb)
                       replace HB := Aside0.mk (below_step (dL3_ HB GE119 GE120 GE126) hb)
                       (try clear hb)
                       (try clear hb2)
                       (try clear hk)
                       (try clear hi)
                       refine hK.out _ _ ⟨(blk_cell BK119.out 0).trans rfl, (blk_cell BK119.out 1).trans rfl, (blk_cell BK119.out 2).trans rfl⟩ (fun hHeld => ?_)
                       clear hK K
                       refine norm_ (a' := ?_) ?_ ?_
                       rotate_left
                       ·show Act.put _ (some 153) _ = _
                        simp only [Act.put, sI_, s0_, sS_, i64_w, i32_w]
                        rfl
                       refine pure_ (i := 3) (N := some 154) (v := ?_) (a' := ?_) (bA 4 12) rfl rfl (any_of HT_.out (by kernel_rfl)) (fun _ _ _ h => h) (Or.inl ⟨by rfl, ?_⟩) ?_ ?_; rotate_left; (intro w'; go_simp; with_reducible rfl); rotate_left; (simp only [Act.put, sI_, s0_, sS_, i64_w, i32_w]; rfl)
                       refine pure_ (i := 4) (N := some 155) (v := undef) (a' := ?_) (bA 5 12) rfl rfl (any_of HT_.out (by kernel_rfl)) (fun _ _ _ h => h) (Or.inr ⟨by rfl, rfl⟩) ?_ ?_; rotate_left; (simp only [Act.put, sI_, s0_, sS_, i64_w, i32_w]; rfl)
                       refine pure_ (i := 5) (N := some 156) (v := undef) (a' := ?_) (bA 6 12) rfl rfl (any_of HT_.out (by kernel_rfl)) (fun _ _ _ h => h) (Or.inr ⟨by rfl, rfl⟩) ?_ ?_; rotate_left; (simp only [Act.put, sI_, s0_, sS_, i64_w, i32_w]; rfl)
                       refine pure_ (i := 6) (N := some 157) (v := undef) (a' := ?_) (bA 7 12) rfl rfl (any_of HT_.out (by kernel_rfl)) (fun _ _ _ h => h) (Or.inr ⟨by rfl, rfl⟩) ?_ ?_; rotate_left; (simp only [Act.put, sI_, s0_, sS_, i64_w, i32_w]; rfl)
                       refine pure_ (i := 7) (N := some 158) (v := undef) (a' := ?_) (bA 8 12) rfl rfl (any_of HT_.out (by kernel_rfl)) (fun _ _ _ h => h) (Or.inr ⟨by rfl, rfl⟩) ?_ ?_; rotate_left; (simp only [Act.put, sI_, s0_, sS_, i64_w, i32_w]; rfl)
                       refine pure_ (i := 8) (N := some 159) (v := undef) (a' := ?_) (bA 9 12) rfl rfl (any_of HT_.out (by kernel_rfl)) (fun _ _ _ h => h) (Or.inr ⟨by rfl, rfl⟩) ?_ ?_; rotate_left; (simp only [Act.put, sI_, s0_, sS_, i64_w, i32_w]; rfl)
                       refine pure_ (i := 9) (N := some 160) (v := undef) (a' := ?_) (bA 10 12) rfl rfl (any_of HT_.out (by kernel_rfl)) (fun _ _ _ h => h) (Or.inr ⟨by rfl, rfl⟩) ?_ ?_; rotate_left; (simp only [Act.put, sI_, s0_, sS_, i64_w, i32_w]; rfl)
                       refine pure_ (i := 10) (N := some 161) (v := undef) (a' := ?_) (bA 11 12) rfl rfl (any_of HT_.out (by kernel_rfl)) (fun _ _ _ h => h) (Or.inr ⟨by rfl, rfl⟩) ?_ ?_; rotate_left; (simp only [Act.put, sI_, s0_, sS_, i64_w, i32_w]; rfl)
                       refine pure_ (i := 11) (N := some 162) (v := ?_) (a' := ?_) (bA 12 12) rfl rfl (any_of HT_.out (by kernel_rfl)) (fun _ _ _ h => h) (Or.inl ⟨by rfl, ?_⟩) ?_ ?_; rotate_left; (intro w'; go_simp; with_reducible rfl); rotate_left; (simp only [Act.put, sI_, s0_, sS_, i64_w, i32_w]; rfl)
                       refine done_ (done_of HT_.out (by kernel_rfl)) ?_
                       try go_wp2
                       go_meet
                       case rel => exact ⟨_, (false), tS_, H', ⟨by have := HJ7.out; have := HJ28.out; have := HJ32.out; have := HK4.out; have := HK5.out; first | omega | exact Nat.le_refl _⟩, ⟨dR_ HO_17⟩, ⟨dR_ HO_127002⟩, ⟨dB_ BK119⟩, ⟨dB_ BK120⟩, ⟨dB_ BK126⟩, ⟨dL3_ HB GE119 GE120 GE126⟩⟩
                     case rest =>
                      clear HC79
                      try clear c4
                      try clear c7
                      try clear c7b0
                      try clear c7b1
                      try clear c14
                      try clear c15
                      try clear c18
                      try clear c23
                      try clear c27
                      try clear c27b0
                      try clear c28
                      try clear c28b0
                      try clear c34
                      try clear c35
                      try clear c38
                      try clear c51
                      try clear c51b0
                      try clear c52
                      try clear c53
                      try clear c54
                      try clear c64
                      try clear c65
                      try clear c66
                      try clear c68
                      try clear c76
                      try clear c76b0
                      try clear c77
                      try clear c77b0
                      try clear c78
                      try clear c78b0
                      try clear hcz12_0
                      try clear hcz12_1
                      try clear hcz12_2
                      try clear hcz31_0
                      try clear hcz31_1
                      try clear hcz31_2
                      try clear hcz50_0
                      try clear hcz50_1
                      try clear hcz50_2
                      try clear hfz12_0
                      try clear hfz12_1
                      try clear hfz12_2
                      try clear hfz31_0
                      try clear hfz31_1
                      try clear hfz31_2
                      try clear hfz50_0
                      try clear hfz50_1
                      try clear hfz50_2
                      try clear hx122_0
                      try clear hx134_0
                      try clear p122
                      try clear p134
                      try clear q122
                      try clear q134
                      obtain ⟨kq, x162_78, rfl, HA, HJ78, HO_17, HO_127002, BK119, BK120, BK126, HB⟩ := hcut
                      cases kq with
                      | zero => exact absurd HA.out (by simp [land_Shift.j6])
                      | succ kj78 =>
                       have H := HA.out
                       clear HA
                       simp only [land_Shift.j6] at H
                       by_cases c91 : x162_78 = true
                       ·subst c91
                        have H1 : (some (0, 0, ([] : List Int), ([] : List (S36)), 0, 7)) = some (r1, r2, r3, r4, r5, r6) := by rw [if_pos rfl] at H; exact H
                        clear H
                        have H := H1
                        clear H1
                        simp only [Option.some.injEq, Prod.mk.injEq] at H
                        obtain ⟨rfl, rfl, rfl, rfl, rfl, rfl⟩ := H
                        have hnb92 := NB120_119.out
                        have hnc92 := NB119_120.out
                        have hnb93 := NB120_126.out
                        have hnc93 := NB126_120.out
                        obtain ⟨hcz94_0, hcz94_1, hcz94_2, hfz94_0, hfz94_1, hfz94_2⟩ := cs3_ BK120.out
                        go_wp2
                        refine bodyPost_ret (results_list (rs := [.cell 10 24, .tmp 11, .tmp 12, .tmp 13]) rfl (by simp) (.cell gb120 24 #[.int .i64 0, .int .i64 0, .slice none 0 0] (0, 0) _ rfl (by (with_reducible repeat (first | refine blk_drewN ?_ _ | refine blk_drew ?_ | refine blk_alloc ?_ _)); refine blk_put (cs := #[.int .i64 0, .int .i64 0, .slice none 0 0]) ?_ 2 _ rfl; (with_reducible repeat (first | refine blk_drewN ?_ _ | refine blk_drew ?_ | refine blk_alloc ?_ _)); refine blk_put (cs := #[.int .i64 0, .int .i64 x121001_5, .slice none 0 0]) ?_ 1 _ rfl; (with_reducible repeat (first | refine blk_drewN ?_ _ | refine blk_drew ?_ | refine blk_alloc ?_ _)); refine blk_put (cs := #[.int .i64 x121000_5, .int .i64 x121001_5, .slice none 0 0]) ?_ 0 _ rfl; (with_reducible repeat (first | refine blk_drewN ?_ _ | refine blk_drew ?_ | refine blk_alloc ?_ _)); exact BK120.out) Try.underlying24 rfl (by kernel_rfl) (.tmp (.tmp (.tmp .nil))))) rfl ?_
                        exact ⟨_, _, by first | rfl | (simp [errW_none, errW_some] <;> rfl) | (simp only [← hji26]; first | rfl | (simp [errW_none, errW_some] <;> rfl)) | (simp [*, errW_none, errW_some] <;> rfl), by first | exact Kd.R_nil _ _ _ _ _ | exact Kd.N_nil _ _ _ _ _ | exact Kd.V_nil _ _ _ _ _ | exact Kd.Q_nil _ _ _ _ _ | exact Kd.S_nil _ _ _ _ _, by first | exact Kd.R_nil _ _ _ _ _ | exact Kd.N_nil _ _ _ _ _ | exact Kd.V_nil _ _ _ _ _ | exact Kd.Q_nil _ _ _ _ _ | exact Kd.S_nil _ _ _ _ _, dL3_ HB GE119 GE120 GE126⟩
                       ·replace c91 := Bool.eq_false_iff.mpr c91
                        subst c91
                        have H1 : (land_Shift.l1 kj78 x17_4 x18_4 l4 (l4.length : Int) (wrap64 (x147_5 + 1)) a0_0 a0_1 l0_2 a0_0 a0_1 x127002_4) = some (r1, r2, r3, r4, r5, r6) := by rw [if_neg (show ¬ (false = true) by decide)] at H; exact H
                        clear H
                        have H := H1
                        clear H1
                        have H' := Aside0.mk H
                        clear H
                        go_wp2
                        go_roundg kj78
                        case measure => have := HJ7.out; have := HJ28.out; have := HJ32.out; have := HK4.out; have := HK5.out; have := HJ78.out; omega
                        case rel => exact ⟨(wrap64 (x147_5 + 1)), (x121000_5), (x121001_5), tS_, H', ⟨by have := HJ7.out; have := HJ28.out; have := HJ32.out; have := HK4.out; have := HK5.out; have := HJ78.out; omega⟩, ⟨dR_ HO_17⟩, ⟨dR_ HO_127002⟩, ⟨dB_ BK119⟩, ⟨dB_ BK120⟩, ⟨dB_ BK126⟩, ⟨dL3_ HB GE119 GE120 GE126⟩⟩
                    ·rw [if_neg c78] at H
                     exact absurd H (by simp)
                   ·rw [if_neg c77] at H
                    exact absurd H (by simp)
                  ·rw [if_neg c76] at H
                   have c76b0 : decide (x147_5 < (l4.length : Int)) = false := decide_eq_false c76
                   clear c76
                   simp only [Option.some.injEq, Prod.mk.injEq] at H
                   obtain ⟨rfl, rfl, rfl, rfl, rfl, rfl⟩ := H
                   have hnb95 := NB126_119.out
                   have hnc95 := NB119_126.out
                   have hnb96 := NB126_120.out
                   have hnc96 := NB120_126.out
                   obtain ⟨hcz97_0, hcz97_1, hcz97_2, hfz97_0, hfz97_1, hfz97_2⟩ := cs3_ BK126.out
                   have hnb98 := NB120_119.out
                   have hnc98 := NB119_120.out
                   obtain ⟨hcz99_0, hcz99_1, hcz99_2, hfz99_0, hfz99_1, hfz99_2⟩ := cs3_ BK120.out
                   obtain ⟨Ao100, co100, eo100⟩ := Kd.R_slice HO_127002.out
                   subst eo100
                   go_wp2
                   refine bodyPost_ret (results_list (rs := [.cell 10 24, .tmp 11, .tmp 12, .tmp 13]) rfl (by simp) (.cell gb120 24 #[.int .i64 a0_0, .int .i64 a0_1, .slice Ao100 x127002_4.length co100] (0, 0) _ rfl (by (with_reducible repeat (first | refine blk_drewN ?_ _ | refine blk_drew ?_ | refine blk_alloc ?_ _)); refine blk_put (cs := #[.int .i64 a0_0, .int .i64 a0_1, .slice none 0 0]) ?_ 2 _ rfl; (with_reducible repeat (first | refine blk_drewN ?_ _ | refine blk_drew ?_ | refine blk_alloc ?_ _)); refine blk_put (cs := #[.int .i64 a0_0, .int .i64 x121001_5, .slice none 0 0]) ?_ 1 _ rfl; (with_reducible repeat (first | refine blk_drewN ?_ _ | refine blk_drew ?_ | refine blk_alloc ?_ _)); refine blk_put (cs := #[.int .i64 x121000_5, .int .i64 x121001_5, .slice none 0 0]) ?_ 0 _ rfl; (with_reducible repeat (first | refine blk_drewN ?_ _ | refine blk_drew ?_ | refine blk_alloc ?_ _)); exact BK120.out) Try.underlying24 rfl (by kernel_rfl) (.tmp (.tmp (.tmp .nil))))) rfl ?_
                   exact ⟨_, _, by first | rfl | (simp [errW_none, errW_some] <;> rfl) | (simp only [← hji26]; first | rfl | (simp [errW_none, errW_some] <;> rfl)) | (simp [*, errW_none, errW_some] <;> rfl), by (with_reducible repeat (first | apply Kd.R_alloc | apply Kd.R_drewN | apply Kd.R_drew)); exact Kd.R_mono (Kd.R_far (p := ⟨gb120, 2, none⟩) (Kd.R_far (p := ⟨gb120, 1, none⟩) (Kd.R_far (p := ⟨gb120, 0, none⟩) (Kd.R_types HO_127002.out BK120.out (by decide)) (fun _ hk => hk.2) (.int .i64 a0_0)) (fun _ hk => hk.2) (.int .i64 a0_1)) (fun _ hk => hk.2) (.slice Ao100 x127002_4.length co100)) (fun _ hk => trivial), by (with_reducible repeat (first | apply Kd.R_alloc | apply Kd.R_drewN | apply Kd.R_drew)); exact Kd.R_mono (Kd.R_far (p := ⟨gb120, 2, none⟩) (Kd.R_far (p := ⟨gb120, 1, none⟩) (Kd.R_far (p := ⟨gb120, 0, none⟩) (Kd.R_types HO_17.out BK120.out (by decide)) (fun _ hk => hk.2) (.int .i64 a0_0)) (fun _ hk => hk.2) (.int .i64 a0_1)) (fun _ hk => hk.2) (.slice Ao100 x127002_4.length co100)) (fun _ hk => trivial), dL3_ HB GE119 GE120 GE126⟩
            ·rw [if_neg c38] at H
             exact absurd H (by simp)
      ·rw [if_neg c28] at H
       exact absurd H (by simp)
     ·rw [if_neg c27] at H
      exact absurd H (by simp)
 ·rw [if_neg c7] at H
  have c7b0 : (t121 == 0) = false := beq_eq_false_iff_ne.mpr c7
  have c7b1 : (t121 != 0) = true := bne_iff_ne.mpr c7
  simp only [Option.some.injEq, Prod.mk.injEq] at H
  obtain ⟨rfl, rfl, rfl, rfl, rfl, rfl⟩ := H
  go_enter Try.func19, Try.ntmps19
  go_wp2_with (first | ((with_reducible refine gate_dst (N := 5) rfl ?_); refine box_event ?hg (N := 5) ?hd (cs := #[.int .i64 a0_0, .int .i64 a0_1, .slice A0_2 l0_2.length c0_2]) (t := 24) ?hr ?_; (case hd => rfl); (case hg => rfl); (case hr => first | (go_simp; done) | (go_simp; rfl)); intro gb119 hg w101 hbox hb; have BK119 := Aside0.mk (hbox); have GW119 := Aside0.mk ((dS_ hg (dL_ HB) : w.heap.size ≤ gb119)); have GE119 := Aside0.mk ((dS_ hg (dL_ HB) : w.heap.size ≤ gb119)); replace HB := Aside0.mk (below_step (dL_ HB) hb); clear hb hbox hg) | ((with_reducible refine gate_dst (N := 10) rfl ?_); refine box_event ?hg (N := 10) ?hd (cs := #[.int .i64 0, .int .i64 0, .slice none 0 0]) (t := 24) ?hr ?_; (case hd => rfl); (case hg => rfl); (case hr => first | (go_simp; done) | (go_simp; rfl)); intro gb120 hg w102 hbox hb; have BK120 := Aside0.mk (hbox); have GW120 := Aside0.mk ((dS_ hg (dL1_ HB GE119) : w.heap.size ≤ gb120)); have GE120 := Aside0.mk ((dS_ hg (dL1_ HB GE119) : w.heap.size ≤ gb120)); replace HB := Aside0.mk (below_step (dL1_ HB GE119) hb); have NB119_120 := Aside0.mk ((by rw [hg]; exact Nat.ne_of_lt (blk_lt (dB_ BK119)) : gb119 ≠ gb120)); have NB120_119 := Aside0.mk ((by rw [hg]; exact Nat.ne_of_gt (blk_lt (dB_ BK119)) : gb120 ≠ gb119)); replace BK119 := Aside0.mk (blk_below (g := gb119) (o := .cells #[.int .i64 a0_0, .int .i64 a0_1, .slice A0_2 l0_2.length c0_2] 24 (0, 0)) (dB_ BK119) hb); clear hb hbox hg; have hnb103 := NB119_120.out; have hnc103 := NB120_119.out; obtain ⟨hcz104_0, hcz104_1, hcz104_2, hfz104_0, hfz104_1, hfz104_2⟩ := cs3_ BK119.out) | ((with_reducible refine gate_callee (f := 17) rfl ?_); refine goesL_ (some 27) rfl rfl Try.func17 (by kernel_rfl) rfl #[.agg #[.int .i64 a0_0, .int .i64 a0_1, .slice A0_2 l0_2.length c0_2]] rfl tA_ ?_; (with_reducible refine (land_Validate.calls k a0_0 a0_1 _ _ l0_2 t121 _ ?side1 ?side2 A6.out).mono ?_); (case side1 => exact dC_ HR0_2 HB); (case side2 => exact HC0_2.out); rintro e w105 ⟨rfl, hb⟩; refine ⟨_, rfl, ?_⟩; replace BK119 := Aside0.mk (blk_below (g := gb119) (o := .cells #[.int .i64 a0_0, .int .i64 a0_1, .slice A0_2 l0_2.length c0_2] 24 (0, 0)) (dB_ BK119) hb); replace BK120 := Aside0.mk (blk_below (g := gb120) (o := .cells #[.int .i64 0, .int .i64 0, .slice none 0 0] 24 (0, 0)) (dB_ BK120) hb); replace HB := Aside0.mk (below_step (dL2_ HB GE119 GE120) hb); obtain ⟨hcz106_0, hcz106_1, hcz106_2, hfz106_0, hfz106_1, hfz106_2⟩ := cs3_ BK120.out))
  refine bodyPost_ret (results_list (rs := [.cell 10 24, .tmp 11, .tmp 12, .tmp 13]) rfl (by simp) (.cell gb120 24 #[.int .i64 0, .int .i64 0, .slice none 0 0] (0, 0) _ rfl (by (with_reducible repeat (first | refine blk_drewN ?_ _ | refine blk_drew ?_ | refine blk_alloc ?_ _)); refine blk_put (cs := #[.int .i64 0, .int .i64 0, .slice none 0 0]) ?_ 2 _ rfl; (with_reducible repeat (first | refine blk_drewN ?_ _ | refine blk_drew ?_ | refine blk_alloc ?_ _)); refine blk_put (cs := #[.int .i64 0, .int .i64 0, .slice none 0 0]) ?_ 1 _ rfl; (with_reducible repeat (first | refine blk_drewN ?_ _ | refine blk_drew ?_ | refine blk_alloc ?_ _)); refine blk_put (cs := #[.int .i64 0, .int .i64 0, .slice none 0 0]) ?_ 0 _ rfl; (with_reducible repeat (first | refine blk_drewN ?_ _ | refine blk_drew ?_ | refine blk_alloc ?_ _)); exact BK120.out) Try.underlying24 rfl (by kernel_rfl) (.tmp (.tmp (.tmp .nil))))) rfl ?_
  exact ⟨_, _, tE_, by first | exact Kd.R_nil _ _ _ _ _ | exact Kd.N_nil _ _ _ _ _ | exact Kd.V_nil _ _ _ _ _ | exact Kd.Q_nil _ _ _ _ _ | exact Kd.S_nil _ _ _ _ _, by first | exact Kd.R_nil _ _ _ _ _ | exact Kd.N_nil _ _ _ _ _ | exact Kd.V_nil _ _ _ _ _ | exact Kd.Q_nil _ _ _ _ _ | exact Kd.S_nil _ _ _ _ _, dL2_ HB GE119 GE120⟩

end Go.Proofs.Ytchflcnegpnkkaa.Q
