-- PRINTED by print.py (a twelfth state) out of the translation. Not trusted: Lean checks it.
import Derived.Test.YtchflcnegpnkkaaPrs
import Derived.Test.YtchflcnegpnkkaaPrt
import Derived.Test.YtchflcnegpnkkaaQ0
import Derived.Test.YtchflcnegpnkkaaQ1
import Derived.Test.YtchflcnegpnkkaaQ3
import Derived.Test.YtchflcnegpnkkaaQ5
import Derived.Test.YtchflcnegpnkkaaQ8
import Derived.Test.YtchflcnegpnkkaaQ10
namespace Go.Proofs.Ytchflcnegpnkkaa.Q
open Go.RowKit Go.Proofs.YtchflcnegpnkkaaPrs Go.Proofs.YtchflcnegpnkkaaPrt Go.Proofs.YtchflcnegpnkkaaOwn Go.Proofs.YtchflcnegpnkkaaW.PrintWords Go.Proofs.YtchflcnegpnkkaaW.PrintLast Go.Proofs.YtchflcnegpnkkaaW.PrintMore
open List renaming setIfInBounds_toArray → sI_, set_cons_zero → s0_, set_cons_succ → sS_
attribute [local go_sem] max2_int min2_int max_two min_two max_three min_three max_four min_four   -- for this text's walks alone
set_option linter.unusedVariables false
set_option linter.unusedSimpArgs false

attribute [local go_sem high] eqA36
/-! ### hinterlandlaw02_LandShiftsLeast: function 5 -/
mutual
def hinterlandlaw02_LandShiftsLeast.j1 : Nat → Int → Int → List Int → List (S36) → Int → Int → Int → Int → List Int → Int → Int → List Int → Option (Bool)
  | 0, _, _, _, _, _, _, _, _, _, _, _, _ => none
  | k + 1, x1, x2, x4, x12, x13, x15, x261000, x261001, x261002, x277000, x277001, x277002 => (land_Validate.f k x277000 x277001 x277002).bind fun t278 => (if t278 = 0 then (if x277000 = x261000 then (if x277001 = x261001 then (if x13 = (wrap64 (250 * (x12.length : Int))) then (if 0 ≤ (wrap64 ((wrap64 (x2 * (wrap64 (x261000 + 1)))) + x1)) then (if (wrap64 ((wrap64 (x2 * (wrap64 (x261000 + 1)))) + x1)) < (x277002.length : Int) then (if (wrap64 ((wrap64 (x2 * (wrap64 (x261000 + 1)))) + x1)) < (x261002.length : Int) then (hinterlandlaw02_LandShiftsLeast.j2 k x4 x12 x15 (wrap64 ((wrap64 (x2 * (wrap64 (x261000 + 1)))) + x1)) ((rd x277002 (wrap64 ((wrap64 (x2 * (wrap64 (x261000 + 1)))) + x1))) != (wrap64 ((rd x261002 (wrap64 ((wrap64 (x2 * (wrap64 (x261000 + 1)))) + x1))) + x15))) x261000 x261001 x261002 x277000 x277001 x277002) else (none)) else (none)) else (none)) else (hinterlandlaw02_LandShiftsLeast.j2 k x4 x12 x15 (wrap64 ((wrap64 (x2 * (wrap64 (x261000 + 1)))) + x1)) true x261000 x261001 x261002 x277000 x277001 x277002)) else (hinterlandlaw02_LandShiftsLeast.j2 k x4 x12 x15 (wrap64 ((wrap64 (x2 * (wrap64 (x261000 + 1)))) + x1)) true x261000 x261001 x261002 x277000 x277001 x277002)) else (hinterlandlaw02_LandShiftsLeast.j2 k x4 x12 x15 (wrap64 ((wrap64 (x2 * (wrap64 (x261000 + 1)))) + x1)) true x261000 x261001 x261002 x277000 x277001 x277002)) else (hinterlandlaw02_LandShiftsLeast.j2 k x4 x12 x15 (wrap64 ((wrap64 (x2 * (wrap64 (x261000 + 1)))) + x1)) true x261000 x261001 x261002 x277000 x277001 x277002))
def hinterlandlaw02_LandShiftsLeast.j2 : Nat → List Int → List (S36) → Int → Int → Bool → Int → Int → List Int → Int → Int → List Int → Option (Bool)
  | 0, _, _, _, _, _, _, _, _, _, _, _ => none
  | k + 1, x4, x12, x15, x16, x100, x261000, x261001, x261002, x277000, x277001, x277002 => if x100 = true then (some false) else ((land_Validate.f k x261000 x261001 x4).bind fun t281 => (if t281 = 0 then (if 0 ≤ x16 then (if x16 < (x4.length : Int) then (if x16 < (x277002.length : Int) then (hinterlandlaw02_LandShiftsLeast.j3 k x4 x12 x15 (decide ((wrap64 ((wrap64 ((rd x4 x16) - (rd x277002 x16))) * x15)) ≥ 0)) x261000 x261001 x261002 x277000 x277001 x277002) else (none)) else (none)) else (none)) else (hinterlandlaw02_LandShiftsLeast.j3 k x4 x12 x15 false x261000 x261001 x261002 x277000 x277001 x277002)))
def hinterlandlaw02_LandShiftsLeast.j3 : Nat → List Int → List (S36) → Int → Bool → Int → Int → List Int → Int → Int → List Int → Option (Bool)
  | 0, _, _, _, _, _, _, _, _, _, _ => none
  | k + 1, x4, x12, x15, x17, x261000, x261001, x261002, x277000, x277001, x277002 => hinterlandlaw02_LandShiftsLeast.l0 k x4 x12 x15 x17 (x261002.length : Int) 0 x261000 x261001 x261002 x277000 x277001 x277002
def hinterlandlaw02_LandShiftsLeast.l0 : Nat → List Int → List (S36) → Int → Bool → Int → Int → Int → Int → List Int → Int → Int → List Int → Option (Bool)
  | 0, _, _, _, _, _, _, _, _, _, _, _, _ => none
  | k + 1, x4, x12, x15, x17, x126, x127, x261000, x261001, x261002, x277000, x277001, x277002 => if x127 < x126 then (if x17 = true then (if 0 ≤ x127 then (if x127 < (x4.length : Int) then (if x127 < (x261002.length : Int) then (hinterlandlaw02_LandShiftsLeast.j5 k x4 x12 x15 (decide ((wrap64 ((wrap64 ((rd x4 x127) - (rd x261002 x127))) * x15)) ≥ 0)) x126 x127 x261000 x261001 x261002 x277000 x277001 x277002) else (none)) else (none)) else (none)) else (hinterlandlaw02_LandShiftsLeast.j5 k x4 x12 x15 false x126 x127 x261000 x261001 x261002 x277000 x277001 x277002)) else (hinterlandlaw02_LandShiftsLeast.l1 k x4 x12 x15 x17 0 (x261002.length : Int) 0 x261000 x261001 x261002 x277000 x277001 x277002)
def hinterlandlaw02_LandShiftsLeast.j5 : Nat → List Int → List (S36) → Int → Bool → Int → Int → Int → Int → List Int → Int → Int → List Int → Option (Bool)
  | 0, _, _, _, _, _, _, _, _, _, _, _, _ => none
  | k + 1, x4, x12, x15, x17, x126, x127, x261000, x261001, x261002, x277000, x277001, x277002 => hinterlandlaw02_LandShiftsLeast.l0 k x4 x12 x15 x17 x126 (wrap64 (x127 + 1)) x261000 x261001 x261002 x277000 x277001 x277002
def hinterlandlaw02_LandShiftsLeast.l1 : Nat → List Int → List (S36) → Int → Bool → Int → Int → Int → Int → Int → List Int → Int → Int → List Int → Option (Bool)
  | 0, _, _, _, _, _, _, _, _, _, _, _, _, _ => none
  | k + 1, x4, x12, x15, x17, x19, x149, x150, x261000, x261001, x261002, x277000, x277001, x277002 => if x150 < x149 then (if 0 ≤ x150 then (if x150 < (x277002.length : Int) then (if x150 < (x261002.length : Int) then (if (rd x277002 x150) = (rd x261002 x150) then (hinterlandlaw02_LandShiftsLeast.j8 k x4 x12 x15 x17 x19 x150 x149 x150 x261000 x261001 x261002 x277000 x277001 x277002) else (if (rd x277002 x150) = (wrap64 ((rd x261002 x150) + x15)) then (if x19 ≥ (x12.length : Int) then (hinterlandlaw02_LandShiftsLeast.j7 k x4 x12 x15 x17 x19 x150 x149 x150 true x261000 x261001 x261002 x277000 x277001 x277002) else (if 0 ≤ x19 then (if x19 < (x12.length : Int) then (if (wrap64 (x261000 + 1)) = 0 then (none) else (hinterlandlaw02_LandShiftsLeast.j7 k x4 x12 x15 x17 x19 x150 x149 x150 (!(((rd_T36 x12 x19).f0) == (Int.tmod x150 (wrap64 (x261000 + 1)))) || (!(((rd_T36 x12 x19).f1) == (wrap64 (Int.tdiv x150 (wrap64 (x261000 + 1))))) || (!(((rd_T36 x12 x19).f2) == (rd x277002 x150))))) x261000 x261001 x261002 x277000 x277001 x277002)) else (none)) else (none))) else (hinterlandlaw02_LandShiftsLeast.j7 k x4 x12 x15 x17 x19 x150 x149 x150 true x261000 x261001 x261002 x277000 x277001 x277002))) else (none)) else (none)) else (none)) else (if x19 = (x12.length : Int) then ((hinterlandlaw02_known.f k).bind fun t294 => (some t294)) else (some false))
def hinterlandlaw02_LandShiftsLeast.j8 : Nat → List Int → List (S36) → Int → Bool → Int → Int → Int → Int → Int → Int → List Int → Int → Int → List Int → Option (Bool)
  | 0, _, _, _, _, _, _, _, _, _, _, _, _, _, _ => none
  | k + 1, x4, x12, x15, x17, x19, x20, x149, x150, x261000, x261001, x261002, x277000, x277001, x277002 => if x17 = true then (if 0 ≤ x20 then (if x20 < (x4.length : Int) then (if x20 < (x277002.length : Int) then (hinterlandlaw02_LandShiftsLeast.j9 k x4 x12 x15 x17 x19 x149 x150 (decide ((wrap64 ((wrap64 ((rd x4 x20) - (rd x277002 x20))) * x15)) < 0)) x261000 x261001 x261002 x277000 x277001 x277002) else (none)) else (none)) else (none)) else (hinterlandlaw02_LandShiftsLeast.j9 k x4 x12 x15 x17 x19 x149 x150 false x261000 x261001 x261002 x277000 x277001 x277002)
def hinterlandlaw02_LandShiftsLeast.j9 : Nat → List Int → List (S36) → Int → Bool → Int → Int → Int → Bool → Int → Int → List Int → Int → Int → List Int → Option (Bool)
  | 0, _, _, _, _, _, _, _, _, _, _, _, _, _, _ => none
  | k + 1, x4, x12, x15, x17, x19, x149, x150, x223, x261000, x261001, x261002, x277000, x277001, x277002 => if x223 = true then (some false) else (hinterlandlaw02_LandShiftsLeast.l1 k x4 x12 x15 x17 x19 x149 (wrap64 (x150 + 1)) x261000 x261001 x261002 x277000 x277001 x277002)
def hinterlandlaw02_LandShiftsLeast.j7 : Nat → List Int → List (S36) → Int → Bool → Int → Int → Int → Int → Bool → Int → Int → List Int → Int → Int → List Int → Option (Bool)
  | 0, _, _, _, _, _, _, _, _, _, _, _, _, _, _, _ => none
  | k + 1, x4, x12, x15, x17, x19, x20, x149, x150, x205, x261000, x261001, x261002, x277000, x277001, x277002 => if x205 = true then (some false) else (hinterlandlaw02_LandShiftsLeast.j8 k x4 x12 x15 x17 (wrap64 (x19 + 1)) x20 x149 x150 x261000 x261001 x261002 x277000 x277001 x277002)
def hinterlandlaw02_LandShiftsLeast.j0 : Nat → Bool → Option (Bool)
  | 0, _ => none
  | k + 1, x10 => some x10
end
def hinterlandlaw02_LandShiftsLeast.f (k : Nat) (a0_0 : Int) (a0_1 : Int) (l0_2 : List Int) (a1 : Int) (a2 : Int) (a3 : Bool) (l4 : List Int) : Option (Bool) := (hinterlandlaw02_large.f k a0_0 a0_1 l0_2 (([l4] : List (List Int)))).bind fun t264 => (if t264 = true then ((hinterlandlaw02_known.f k).bind fun t265 => (some t265)) else ((land_Shift.f k a0_0 a0_1 l0_2 a1 a2 a3 ([] : List Int)).bind fun bt266 => (if bt266.2.2.2.2.2 = 0 then (if a3 = true then (hinterlandlaw02_LandShiftsLeast.j1 k a1 a2 l4 bt266.2.2.2.1 bt266.2.2.2.2.1 1 a0_0 a0_1 l0_2 bt266.1 bt266.2.1 bt266.2.2.1) else (hinterlandlaw02_LandShiftsLeast.j1 k a1 a2 l4 bt266.2.2.2.1 bt266.2.2.2.2.1 (-1) a0_0 a0_1 l0_2 bt266.1 bt266.2.1 bt266.2.2.1)) else (if (bt266.2.2.1.length : Int) = 0 then (if (bt266.2.2.2.1.length : Int) = 0 then (if bt266.2.2.2.2.1 = 0 then ((hinterlandlaw02_known.f k).bind fun t277 => (hinterlandlaw02_LandShiftsLeast.j0 k t277)) else (hinterlandlaw02_LandShiftsLeast.j0 k false)) else (hinterlandlaw02_LandShiftsLeast.j0 k false)) else (hinterlandlaw02_LandShiftsLeast.j0 k false)))))
theorem hinterlandlaw02_LandShiftsLeast.mono_l : ∀ k, (∀ y0 y1 y2 y3 y4 y5 y6 y7 y8 y9 y10 y11, LeO (hinterlandlaw02_LandShiftsLeast.j1 k y0 y1 y2 y3 y4 y5 y6 y7 y8 y9 y10 y11) (hinterlandlaw02_LandShiftsLeast.j1 (k + 1) y0 y1 y2 y3 y4 y5 y6 y7 y8 y9 y10 y11)) ∧ (∀ y0 y1 y2 y3 y4 y5 y6 y7 y8 y9 y10, LeO (hinterlandlaw02_LandShiftsLeast.j2 k y0 y1 y2 y3 y4 y5 y6 y7 y8 y9 y10) (hinterlandlaw02_LandShiftsLeast.j2 (k + 1) y0 y1 y2 y3 y4 y5 y6 y7 y8 y9 y10)) ∧ (∀ y0 y1 y2 y3 y4 y5 y6 y7 y8 y9, LeO (hinterlandlaw02_LandShiftsLeast.j3 k y0 y1 y2 y3 y4 y5 y6 y7 y8 y9) (hinterlandlaw02_LandShiftsLeast.j3 (k + 1) y0 y1 y2 y3 y4 y5 y6 y7 y8 y9)) ∧ (∀ y0 y1 y2 y3 y4 y5 y6 y7 y8 y9 y10 y11, LeO (hinterlandlaw02_LandShiftsLeast.l0 k y0 y1 y2 y3 y4 y5 y6 y7 y8 y9 y10 y11) (hinterlandlaw02_LandShiftsLeast.l0 (k + 1) y0 y1 y2 y3 y4 y5 y6 y7 y8 y9 y10 y11)) ∧ (∀ y0 y1 y2 y3 y4 y5 y6 y7 y8 y9 y10 y11, LeO (hinterlandlaw02_LandShiftsLeast.j5 k y0 y1 y2 y3 y4 y5 y6 y7 y8 y9 y10 y11) (hinterlandlaw02_LandShiftsLeast.j5 (k + 1) y0 y1 y2 y3 y4 y5 y6 y7 y8 y9 y10 y11)) ∧ (∀ y0 y1 y2 y3 y4 y5 y6 y7 y8 y9 y10 y11 y12, LeO (hinterlandlaw02_LandShiftsLeast.l1 k y0 y1 y2 y3 y4 y5 y6 y7 y8 y9 y10 y11 y12) (hinterlandlaw02_LandShiftsLeast.l1 (k + 1) y0 y1 y2 y3 y4 y5 y6 y7 y8 y9 y10 y11 y12)) ∧ (∀ y0 y1 y2 y3 y4 y5 y6 y7 y8 y9 y10 y11 y12 y13, LeO (hinterlandlaw02_LandShiftsLeast.j8 k y0 y1 y2 y3 y4 y5 y6 y7 y8 y9 y10 y11 y12 y13) (hinterlandlaw02_LandShiftsLeast.j8 (k + 1) y0 y1 y2 y3 y4 y5 y6 y7 y8 y9 y10 y11 y12 y13)) ∧ (∀ y0 y1 y2 y3 y4 y5 y6 y7 y8 y9 y10 y11 y12 y13, LeO (hinterlandlaw02_LandShiftsLeast.j9 k y0 y1 y2 y3 y4 y5 y6 y7 y8 y9 y10 y11 y12 y13) (hinterlandlaw02_LandShiftsLeast.j9 (k + 1) y0 y1 y2 y3 y4 y5 y6 y7 y8 y9 y10 y11 y12 y13)) ∧ (∀ y0 y1 y2 y3 y4 y5 y6 y7 y8 y9 y10 y11 y12 y13 y14, LeO (hinterlandlaw02_LandShiftsLeast.j7 k y0 y1 y2 y3 y4 y5 y6 y7 y8 y9 y10 y11 y12 y13 y14) (hinterlandlaw02_LandShiftsLeast.j7 (k + 1) y0 y1 y2 y3 y4 y5 y6 y7 y8 y9 y10 y11 y12 y13 y14)) ∧ (∀ y0, LeO (hinterlandlaw02_LandShiftsLeast.j0 k y0) (hinterlandlaw02_LandShiftsLeast.j0 (k + 1) y0))
  | 0 => ⟨fun _ _ _ _ _ _ _ _ _ _ _ _ r h => by simp [hinterlandlaw02_LandShiftsLeast.j1] at h, fun _ _ _ _ _ _ _ _ _ _ _ r h => by simp [hinterlandlaw02_LandShiftsLeast.j2] at h, fun _ _ _ _ _ _ _ _ _ _ r h => by simp [hinterlandlaw02_LandShiftsLeast.j3] at h, fun _ _ _ _ _ _ _ _ _ _ _ _ r h => by simp [hinterlandlaw02_LandShiftsLeast.l0] at h, fun _ _ _ _ _ _ _ _ _ _ _ _ r h => by simp [hinterlandlaw02_LandShiftsLeast.j5] at h, fun _ _ _ _ _ _ _ _ _ _ _ _ _ r h => by simp [hinterlandlaw02_LandShiftsLeast.l1] at h, fun _ _ _ _ _ _ _ _ _ _ _ _ _ _ r h => by simp [hinterlandlaw02_LandShiftsLeast.j8] at h, fun _ _ _ _ _ _ _ _ _ _ _ _ _ _ r h => by simp [hinterlandlaw02_LandShiftsLeast.j9] at h, fun _ _ _ _ _ _ _ _ _ _ _ _ _ _ _ r h => by simp [hinterlandlaw02_LandShiftsLeast.j7] at h, fun _ r h => by simp [hinterlandlaw02_LandShiftsLeast.j0] at h⟩
  | k + 1 => by
    obtain ⟨ih0, ih1, ih2, ih3, ih4, ih5, ih6, ih7, ih8, ih9⟩ := hinterlandlaw02_LandShiftsLeast.mono_l k
    refine ⟨?_, ?_, ?_, ?_, ?_, ?_, ?_, ?_, ?_, ?_⟩
    · intro y0 y1 y2 y3 y4 y5 y6 y7 y8 y9 y10 y11
      unfold hinterlandlaw02_LandShiftsLeast.j1
      repeat' first
      | (with_reducible first | exact ih0 _ _ _ _ _ _ _ _ _ _ _ _ | exact ih1 _ _ _ _ _ _ _ _ _ _ _ | exact ih2 _ _ _ _ _ _ _ _ _ _ | exact ih3 _ _ _ _ _ _ _ _ _ _ _ _ | exact ih4 _ _ _ _ _ _ _ _ _ _ _ _ | exact ih5 _ _ _ _ _ _ _ _ _ _ _ _ _ | exact ih6 _ _ _ _ _ _ _ _ _ _ _ _ _ _ | exact ih7 _ _ _ _ _ _ _ _ _ _ _ _ _ _ | exact ih8 _ _ _ _ _ _ _ _ _ _ _ _ _ _ _ | exact ih9 _ | exact hinterlandlaw02_known.mono _ | exact hinterlandlaw02_large.mono _ _ _ _ _ | exact land_Shift.mono _ _ _ _ _ _ _ _ | exact land_Validate.mono _ _ _ _ | exact LeO.refl _ | exact LeO.none _ | refine LeO.ite ?_ ?_ | refine LeO.bind ?_ (fun _ => ?_))
      | exact ih0 _ _ _ _ _ _ _ _ _ _ _ _
      | exact ih1 _ _ _ _ _ _ _ _ _ _ _
      | exact ih2 _ _ _ _ _ _ _ _ _ _
      | exact ih3 _ _ _ _ _ _ _ _ _ _ _ _
      | exact ih4 _ _ _ _ _ _ _ _ _ _ _ _
      | exact ih5 _ _ _ _ _ _ _ _ _ _ _ _ _
      | exact ih6 _ _ _ _ _ _ _ _ _ _ _ _ _ _
      | exact ih7 _ _ _ _ _ _ _ _ _ _ _ _ _ _
      | exact ih8 _ _ _ _ _ _ _ _ _ _ _ _ _ _ _
      | exact ih9 _
      | exact hinterlandlaw02_known.mono _
      | exact hinterlandlaw02_large.mono _ _ _ _ _
      | exact land_Shift.mono _ _ _ _ _ _ _ _
      | exact land_Validate.mono _ _ _ _
      | exact LeO.none _
      | refine LeO.ite ?_ ?_
      | refine LeO.bind ?_ (fun _ => ?_)
    · intro y0 y1 y2 y3 y4 y5 y6 y7 y8 y9 y10
      unfold hinterlandlaw02_LandShiftsLeast.j2
      repeat' first
      | (with_reducible first | exact ih0 _ _ _ _ _ _ _ _ _ _ _ _ | exact ih1 _ _ _ _ _ _ _ _ _ _ _ | exact ih2 _ _ _ _ _ _ _ _ _ _ | exact ih3 _ _ _ _ _ _ _ _ _ _ _ _ | exact ih4 _ _ _ _ _ _ _ _ _ _ _ _ | exact ih5 _ _ _ _ _ _ _ _ _ _ _ _ _ | exact ih6 _ _ _ _ _ _ _ _ _ _ _ _ _ _ | exact ih7 _ _ _ _ _ _ _ _ _ _ _ _ _ _ | exact ih8 _ _ _ _ _ _ _ _ _ _ _ _ _ _ _ | exact ih9 _ | exact hinterlandlaw02_known.mono _ | exact hinterlandlaw02_large.mono _ _ _ _ _ | exact land_Shift.mono _ _ _ _ _ _ _ _ | exact land_Validate.mono _ _ _ _ | exact LeO.refl _ | exact LeO.none _ | refine LeO.ite ?_ ?_ | refine LeO.bind ?_ (fun _ => ?_))
      | exact ih0 _ _ _ _ _ _ _ _ _ _ _ _
      | exact ih1 _ _ _ _ _ _ _ _ _ _ _
      | exact ih2 _ _ _ _ _ _ _ _ _ _
      | exact ih3 _ _ _ _ _ _ _ _ _ _ _ _
      | exact ih4 _ _ _ _ _ _ _ _ _ _ _ _
      | exact ih5 _ _ _ _ _ _ _ _ _ _ _ _ _
      | exact ih6 _ _ _ _ _ _ _ _ _ _ _ _ _ _
      | exact ih7 _ _ _ _ _ _ _ _ _ _ _ _ _ _
      | exact ih8 _ _ _ _ _ _ _ _ _ _ _ _ _ _ _
      | exact ih9 _
      | exact hinterlandlaw02_known.mono _
      | exact hinterlandlaw02_large.mono _ _ _ _ _
      | exact land_Shift.mono _ _ _ _ _ _ _ _
      | exact land_Validate.mono _ _ _ _
      | exact LeO.none _
      | refine LeO.ite ?_ ?_
      | refine LeO.bind ?_ (fun _ => ?_)
    · intro y0 y1 y2 y3 y4 y5 y6 y7 y8 y9
      unfold hinterlandlaw02_LandShiftsLeast.j3
      repeat' first
      | (with_reducible first | exact ih0 _ _ _ _ _ _ _ _ _ _ _ _ | exact ih1 _ _ _ _ _ _ _ _ _ _ _ | exact ih2 _ _ _ _ _ _ _ _ _ _ | exact ih3 _ _ _ _ _ _ _ _ _ _ _ _ | exact ih4 _ _ _ _ _ _ _ _ _ _ _ _ | exact ih5 _ _ _ _ _ _ _ _ _ _ _ _ _ | exact ih6 _ _ _ _ _ _ _ _ _ _ _ _ _ _ | exact ih7 _ _ _ _ _ _ _ _ _ _ _ _ _ _ | exact ih8 _ _ _ _ _ _ _ _ _ _ _ _ _ _ _ | exact ih9 _ | exact hinterlandlaw02_known.mono _ | exact hinterlandlaw02_large.mono _ _ _ _ _ | exact land_Shift.mono _ _ _ _ _ _ _ _ | exact land_Validate.mono _ _ _ _ | exact LeO.refl _ | exact LeO.none _ | refine LeO.ite ?_ ?_ | refine LeO.bind ?_ (fun _ => ?_))
      | exact ih0 _ _ _ _ _ _ _ _ _ _ _ _
      | exact ih1 _ _ _ _ _ _ _ _ _ _ _
      | exact ih2 _ _ _ _ _ _ _ _ _ _
      | exact ih3 _ _ _ _ _ _ _ _ _ _ _ _
      | exact ih4 _ _ _ _ _ _ _ _ _ _ _ _
      | exact ih5 _ _ _ _ _ _ _ _ _ _ _ _ _
      | exact ih6 _ _ _ _ _ _ _ _ _ _ _ _ _ _
      | exact ih7 _ _ _ _ _ _ _ _ _ _ _ _ _ _
      | exact ih8 _ _ _ _ _ _ _ _ _ _ _ _ _ _ _
      | exact ih9 _
      | exact hinterlandlaw02_known.mono _
      | exact hinterlandlaw02_large.mono _ _ _ _ _
      | exact land_Shift.mono _ _ _ _ _ _ _ _
      | exact land_Validate.mono _ _ _ _
      | exact LeO.none _
      | refine LeO.ite ?_ ?_
      | refine LeO.bind ?_ (fun _ => ?_)
    · intro y0 y1 y2 y3 y4 y5 y6 y7 y8 y9 y10 y11
      unfold hinterlandlaw02_LandShiftsLeast.l0
      repeat' first
      | (with_reducible first | exact ih0 _ _ _ _ _ _ _ _ _ _ _ _ | exact ih1 _ _ _ _ _ _ _ _ _ _ _ | exact ih2 _ _ _ _ _ _ _ _ _ _ | exact ih3 _ _ _ _ _ _ _ _ _ _ _ _ | exact ih4 _ _ _ _ _ _ _ _ _ _ _ _ | exact ih5 _ _ _ _ _ _ _ _ _ _ _ _ _ | exact ih6 _ _ _ _ _ _ _ _ _ _ _ _ _ _ | exact ih7 _ _ _ _ _ _ _ _ _ _ _ _ _ _ | exact ih8 _ _ _ _ _ _ _ _ _ _ _ _ _ _ _ | exact ih9 _ | exact hinterlandlaw02_known.mono _ | exact hinterlandlaw02_large.mono _ _ _ _ _ | exact land_Shift.mono _ _ _ _ _ _ _ _ | exact land_Validate.mono _ _ _ _ | exact LeO.refl _ | exact LeO.none _ | refine LeO.ite ?_ ?_ | refine LeO.bind ?_ (fun _ => ?_))
      | exact ih0 _ _ _ _ _ _ _ _ _ _ _ _
      | exact ih1 _ _ _ _ _ _ _ _ _ _ _
      | exact ih2 _ _ _ _ _ _ _ _ _ _
      | exact ih3 _ _ _ _ _ _ _ _ _ _ _ _
      | exact ih4 _ _ _ _ _ _ _ _ _ _ _ _
      | exact ih5 _ _ _ _ _ _ _ _ _ _ _ _ _
      | exact ih6 _ _ _ _ _ _ _ _ _ _ _ _ _ _
      | exact ih7 _ _ _ _ _ _ _ _ _ _ _ _ _ _
      | exact ih8 _ _ _ _ _ _ _ _ _ _ _ _ _ _ _
      | exact ih9 _
      | exact hinterlandlaw02_known.mono _
      | exact hinterlandlaw02_large.mono _ _ _ _ _
      | exact land_Shift.mono _ _ _ _ _ _ _ _
      | exact land_Validate.mono _ _ _ _
      | exact LeO.none _
      | refine LeO.ite ?_ ?_
      | refine LeO.bind ?_ (fun _ => ?_)
    · intro y0 y1 y2 y3 y4 y5 y6 y7 y8 y9 y10 y11
      unfold hinterlandlaw02_LandShiftsLeast.j5
      repeat' first
      | (with_reducible first | exact ih0 _ _ _ _ _ _ _ _ _ _ _ _ | exact ih1 _ _ _ _ _ _ _ _ _ _ _ | exact ih2 _ _ _ _ _ _ _ _ _ _ | exact ih3 _ _ _ _ _ _ _ _ _ _ _ _ | exact ih4 _ _ _ _ _ _ _ _ _ _ _ _ | exact ih5 _ _ _ _ _ _ _ _ _ _ _ _ _ | exact ih6 _ _ _ _ _ _ _ _ _ _ _ _ _ _ | exact ih7 _ _ _ _ _ _ _ _ _ _ _ _ _ _ | exact ih8 _ _ _ _ _ _ _ _ _ _ _ _ _ _ _ | exact ih9 _ | exact hinterlandlaw02_known.mono _ | exact hinterlandlaw02_large.mono _ _ _ _ _ | exact land_Shift.mono _ _ _ _ _ _ _ _ | exact land_Validate.mono _ _ _ _ | exact LeO.refl _ | exact LeO.none _ | refine LeO.ite ?_ ?_ | refine LeO.bind ?_ (fun _ => ?_))
      | exact ih0 _ _ _ _ _ _ _ _ _ _ _ _
      | exact ih1 _ _ _ _ _ _ _ _ _ _ _
      | exact ih2 _ _ _ _ _ _ _ _ _ _
      | exact ih3 _ _ _ _ _ _ _ _ _ _ _ _
      | exact ih4 _ _ _ _ _ _ _ _ _ _ _ _
      | exact ih5 _ _ _ _ _ _ _ _ _ _ _ _ _
      | exact ih6 _ _ _ _ _ _ _ _ _ _ _ _ _ _
      | exact ih7 _ _ _ _ _ _ _ _ _ _ _ _ _ _
      | exact ih8 _ _ _ _ _ _ _ _ _ _ _ _ _ _ _
      | exact ih9 _
      | exact hinterlandlaw02_known.mono _
      | exact hinterlandlaw02_large.mono _ _ _ _ _
      | exact land_Shift.mono _ _ _ _ _ _ _ _
      | exact land_Validate.mono _ _ _ _
      | exact LeO.none _
      | refine LeO.ite ?_ ?_
      | refine LeO.bind ?_ (fun _ => ?_)
    · intro y0 y1 y2 y3 y4 y5 y6 y7 y8 y9 y10 y11 y12
      unfold hinterlandlaw02_LandShiftsLeast.l1
      repeat' first
      | (with_reducible first | exact ih0 _ _ _ _ _ _ _ _ _ _ _ _ | exact ih1 _ _ _ _ _ _ _ _ _ _ _ | exact ih2 _ _ _ _ _ _ _ _ _ _ | exact ih3 _ _ _ _ _ _ _ _ _ _ _ _ | exact ih4 _ _ _ _ _ _ _ _ _ _ _ _ | exact ih5 _ _ _ _ _ _ _ _ _ _ _ _ _ | exact ih6 _ _ _ _ _ _ _ _ _ _ _ _ _ _ | exact ih7 _ _ _ _ _ _ _ _ _ _ _ _ _ _ | exact ih8 _ _ _ _ _ _ _ _ _ _ _ _ _ _ _ | exact ih9 _ | exact hinterlandlaw02_known.mono _ | exact hinterlandlaw02_large.mono _ _ _ _ _ | exact land_Shift.mono _ _ _ _ _ _ _ _ | exact land_Validate.mono _ _ _ _ | exact LeO.refl _ | exact LeO.none _ | refine LeO.ite ?_ ?_ | refine LeO.bind ?_ (fun _ => ?_))
      | exact ih0 _ _ _ _ _ _ _ _ _ _ _ _
      | exact ih1 _ _ _ _ _ _ _ _ _ _ _
      | exact ih2 _ _ _ _ _ _ _ _ _ _
      | exact ih3 _ _ _ _ _ _ _ _ _ _ _ _
      | exact ih4 _ _ _ _ _ _ _ _ _ _ _ _
      | exact ih5 _ _ _ _ _ _ _ _ _ _ _ _ _
      | exact ih6 _ _ _ _ _ _ _ _ _ _ _ _ _ _
      | exact ih7 _ _ _ _ _ _ _ _ _ _ _ _ _ _
      | exact ih8 _ _ _ _ _ _ _ _ _ _ _ _ _ _ _
      | exact ih9 _
      | exact hinterlandlaw02_known.mono _
      | exact hinterlandlaw02_large.mono _ _ _ _ _
      | exact land_Shift.mono _ _ _ _ _ _ _ _
      | exact land_Validate.mono _ _ _ _
      | exact LeO.none _
      | refine LeO.ite ?_ ?_
      | refine LeO.bind ?_ (fun _ => ?_)
    · intro y0 y1 y2 y3 y4 y5 y6 y7 y8 y9 y10 y11 y12 y13
      unfold hinterlandlaw02_LandShiftsLeast.j8
      repeat' first
      | (with_reducible first | exact ih0 _ _ _ _ _ _ _ _ _ _ _ _ | exact ih1 _ _ _ _ _ _ _ _ _ _ _ | exact ih2 _ _ _ _ _ _ _ _ _ _ | exact ih3 _ _ _ _ _ _ _ _ _ _ _ _ | exact ih4 _ _ _ _ _ _ _ _ _ _ _ _ | exact ih5 _ _ _ _ _ _ _ _ _ _ _ _ _ | exact ih6 _ _ _ _ _ _ _ _ _ _ _ _ _ _ | exact ih7 _ _ _ _ _ _ _ _ _ _ _ _ _ _ | exact ih8 _ _ _ _ _ _ _ _ _ _ _ _ _ _ _ | exact ih9 _ | exact hinterlandlaw02_known.mono _ | exact hinterlandlaw02_large.mono _ _ _ _ _ | exact land_Shift.mono _ _ _ _ _ _ _ _ | exact land_Validate.mono _ _ _ _ | exact LeO.refl _ | exact LeO.none _ | refine LeO.ite ?_ ?_ | refine LeO.bind ?_ (fun _ => ?_))
      | exact ih0 _ _ _ _ _ _ _ _ _ _ _ _
      | exact ih1 _ _ _ _ _ _ _ _ _ _ _
      | exact ih2 _ _ _ _ _ _ _ _ _ _
      | exact ih3 _ _ _ _ _ _ _ _ _ _ _ _
      | exact ih4 _ _ _ _ _ _ _ _ _ _ _ _
      | exact ih5 _ _ _ _ _ _ _ _ _ _ _ _ _
      | exact ih6 _ _ _ _ _ _ _ _ _ _ _ _ _ _
      | exact ih7 _ _ _ _ _ _ _ _ _ _ _ _ _ _
      | exact ih8 _ _ _ _ _ _ _ _ _ _ _ _ _ _ _
      | exact ih9 _
      | exact hinterlandlaw02_known.mono _
      | exact hinterlandlaw02_large.mono _ _ _ _ _
      | exact land_Shift.mono _ _ _ _ _ _ _ _
      | exact land_Validate.mono _ _ _ _
      | exact LeO.none _
      | refine LeO.ite ?_ ?_
      | refine LeO.bind ?_ (fun _ => ?_)
    · intro y0 y1 y2 y3 y4 y5 y6 y7 y8 y9 y10 y11 y12 y13
      unfold hinterlandlaw02_LandShiftsLeast.j9
      repeat' first
      | (with_reducible first | exact ih0 _ _ _ _ _ _ _ _ _ _ _ _ | exact ih1 _ _ _ _ _ _ _ _ _ _ _ | exact ih2 _ _ _ _ _ _ _ _ _ _ | exact ih3 _ _ _ _ _ _ _ _ _ _ _ _ | exact ih4 _ _ _ _ _ _ _ _ _ _ _ _ | exact ih5 _ _ _ _ _ _ _ _ _ _ _ _ _ | exact ih6 _ _ _ _ _ _ _ _ _ _ _ _ _ _ | exact ih7 _ _ _ _ _ _ _ _ _ _ _ _ _ _ | exact ih8 _ _ _ _ _ _ _ _ _ _ _ _ _ _ _ | exact ih9 _ | exact hinterlandlaw02_known.mono _ | exact hinterlandlaw02_large.mono _ _ _ _ _ | exact land_Shift.mono _ _ _ _ _ _ _ _ | exact land_Validate.mono _ _ _ _ | exact LeO.refl _ | exact LeO.none _ | refine LeO.ite ?_ ?_ | refine LeO.bind ?_ (fun _ => ?_))
      | exact ih0 _ _ _ _ _ _ _ _ _ _ _ _
      | exact ih1 _ _ _ _ _ _ _ _ _ _ _
      | exact ih2 _ _ _ _ _ _ _ _ _ _
      | exact ih3 _ _ _ _ _ _ _ _ _ _ _ _
      | exact ih4 _ _ _ _ _ _ _ _ _ _ _ _
      | exact ih5 _ _ _ _ _ _ _ _ _ _ _ _ _
      | exact ih6 _ _ _ _ _ _ _ _ _ _ _ _ _ _
      | exact ih7 _ _ _ _ _ _ _ _ _ _ _ _ _ _
      | exact ih8 _ _ _ _ _ _ _ _ _ _ _ _ _ _ _
      | exact ih9 _
      | exact hinterlandlaw02_known.mono _
      | exact hinterlandlaw02_large.mono _ _ _ _ _
      | exact land_Shift.mono _ _ _ _ _ _ _ _
      | exact land_Validate.mono _ _ _ _
      | exact LeO.none _
      | refine LeO.ite ?_ ?_
      | refine LeO.bind ?_ (fun _ => ?_)
    · intro y0 y1 y2 y3 y4 y5 y6 y7 y8 y9 y10 y11 y12 y13 y14
      unfold hinterlandlaw02_LandShiftsLeast.j7
      repeat' first
      | (with_reducible first | exact ih0 _ _ _ _ _ _ _ _ _ _ _ _ | exact ih1 _ _ _ _ _ _ _ _ _ _ _ | exact ih2 _ _ _ _ _ _ _ _ _ _ | exact ih3 _ _ _ _ _ _ _ _ _ _ _ _ | exact ih4 _ _ _ _ _ _ _ _ _ _ _ _ | exact ih5 _ _ _ _ _ _ _ _ _ _ _ _ _ | exact ih6 _ _ _ _ _ _ _ _ _ _ _ _ _ _ | exact ih7 _ _ _ _ _ _ _ _ _ _ _ _ _ _ | exact ih8 _ _ _ _ _ _ _ _ _ _ _ _ _ _ _ | exact ih9 _ | exact hinterlandlaw02_known.mono _ | exact hinterlandlaw02_large.mono _ _ _ _ _ | exact land_Shift.mono _ _ _ _ _ _ _ _ | exact land_Validate.mono _ _ _ _ | exact LeO.refl _ | exact LeO.none _ | refine LeO.ite ?_ ?_ | refine LeO.bind ?_ (fun _ => ?_))
      | exact ih0 _ _ _ _ _ _ _ _ _ _ _ _
      | exact ih1 _ _ _ _ _ _ _ _ _ _ _
      | exact ih2 _ _ _ _ _ _ _ _ _ _
      | exact ih3 _ _ _ _ _ _ _ _ _ _ _ _
      | exact ih4 _ _ _ _ _ _ _ _ _ _ _ _
      | exact ih5 _ _ _ _ _ _ _ _ _ _ _ _ _
      | exact ih6 _ _ _ _ _ _ _ _ _ _ _ _ _ _
      | exact ih7 _ _ _ _ _ _ _ _ _ _ _ _ _ _
      | exact ih8 _ _ _ _ _ _ _ _ _ _ _ _ _ _ _
      | exact ih9 _
      | exact hinterlandlaw02_known.mono _
      | exact hinterlandlaw02_large.mono _ _ _ _ _
      | exact land_Shift.mono _ _ _ _ _ _ _ _
      | exact land_Validate.mono _ _ _ _
      | exact LeO.none _
      | refine LeO.ite ?_ ?_
      | refine LeO.bind ?_ (fun _ => ?_)
    · intro y0
      unfold hinterlandlaw02_LandShiftsLeast.j0
      repeat' first
      | (with_reducible first | exact ih0 _ _ _ _ _ _ _ _ _ _ _ _ | exact ih1 _ _ _ _ _ _ _ _ _ _ _ | exact ih2 _ _ _ _ _ _ _ _ _ _ | exact ih3 _ _ _ _ _ _ _ _ _ _ _ _ | exact ih4 _ _ _ _ _ _ _ _ _ _ _ _ | exact ih5 _ _ _ _ _ _ _ _ _ _ _ _ _ | exact ih6 _ _ _ _ _ _ _ _ _ _ _ _ _ _ | exact ih7 _ _ _ _ _ _ _ _ _ _ _ _ _ _ | exact ih8 _ _ _ _ _ _ _ _ _ _ _ _ _ _ _ | exact ih9 _ | exact hinterlandlaw02_known.mono _ | exact hinterlandlaw02_large.mono _ _ _ _ _ | exact land_Shift.mono _ _ _ _ _ _ _ _ | exact land_Validate.mono _ _ _ _ | exact LeO.refl _ | exact LeO.none _ | refine LeO.ite ?_ ?_ | refine LeO.bind ?_ (fun _ => ?_))
      | exact ih0 _ _ _ _ _ _ _ _ _ _ _ _
      | exact ih1 _ _ _ _ _ _ _ _ _ _ _
      | exact ih2 _ _ _ _ _ _ _ _ _ _
      | exact ih3 _ _ _ _ _ _ _ _ _ _ _ _
      | exact ih4 _ _ _ _ _ _ _ _ _ _ _ _
      | exact ih5 _ _ _ _ _ _ _ _ _ _ _ _ _
      | exact ih6 _ _ _ _ _ _ _ _ _ _ _ _ _ _
      | exact ih7 _ _ _ _ _ _ _ _ _ _ _ _ _ _
      | exact ih8 _ _ _ _ _ _ _ _ _ _ _ _ _ _ _
      | exact ih9 _
      | exact hinterlandlaw02_known.mono _
      | exact hinterlandlaw02_large.mono _ _ _ _ _
      | exact land_Shift.mono _ _ _ _ _ _ _ _
      | exact land_Validate.mono _ _ _ _
      | exact LeO.none _
      | refine LeO.ite ?_ ?_
      | refine LeO.bind ?_ (fun _ => ?_)
theorem hinterlandlaw02_LandShiftsLeast.mono : ∀ a0 a1 a2 a3 a4 a5 a6 k, LeO (hinterlandlaw02_LandShiftsLeast.f k a0 a1 a2 a3 a4 a5 a6) (hinterlandlaw02_LandShiftsLeast.f (k + 1) a0 a1 a2 a3 a4 a5 a6) := by
  intro a0 a1 a2 a3 a4 a5 a6 k
  obtain ⟨ih0, ih1, ih2, ih3, ih4, ih5, ih6, ih7, ih8, ih9⟩ := hinterlandlaw02_LandShiftsLeast.mono_l k
  unfold hinterlandlaw02_LandShiftsLeast.f
  repeat' first
      | (with_reducible first | exact ih0 _ _ _ _ _ _ _ _ _ _ _ _ | exact ih1 _ _ _ _ _ _ _ _ _ _ _ | exact ih2 _ _ _ _ _ _ _ _ _ _ | exact ih3 _ _ _ _ _ _ _ _ _ _ _ _ | exact ih4 _ _ _ _ _ _ _ _ _ _ _ _ | exact ih5 _ _ _ _ _ _ _ _ _ _ _ _ _ | exact ih6 _ _ _ _ _ _ _ _ _ _ _ _ _ _ | exact ih7 _ _ _ _ _ _ _ _ _ _ _ _ _ _ | exact ih8 _ _ _ _ _ _ _ _ _ _ _ _ _ _ _ | exact ih9 _ | exact hinterlandlaw02_known.mono _ | exact hinterlandlaw02_large.mono _ _ _ _ _ | exact land_Shift.mono _ _ _ _ _ _ _ _ | exact land_Validate.mono _ _ _ _ | exact LeO.refl _ | exact LeO.none _ | refine LeO.ite ?_ ?_ | refine LeO.bind ?_ (fun _ => ?_))
      | exact ih0 _ _ _ _ _ _ _ _ _ _ _ _
      | exact ih1 _ _ _ _ _ _ _ _ _ _ _
      | exact ih2 _ _ _ _ _ _ _ _ _ _
      | exact ih3 _ _ _ _ _ _ _ _ _ _ _ _
      | exact ih4 _ _ _ _ _ _ _ _ _ _ _ _
      | exact ih5 _ _ _ _ _ _ _ _ _ _ _ _ _
      | exact ih6 _ _ _ _ _ _ _ _ _ _ _ _ _ _
      | exact ih7 _ _ _ _ _ _ _ _ _ _ _ _ _ _
      | exact ih8 _ _ _ _ _ _ _ _ _ _ _ _ _ _ _
      | exact ih9 _
      | exact hinterlandlaw02_known.mono _
      | exact hinterlandlaw02_large.mono _ _ _ _ _
      | exact land_Shift.mono _ _ _ _ _ _ _ _
      | exact land_Validate.mono _ _ _ _
      | exact LeO.none _
      | refine LeO.ite ?_ ?_
      | refine LeO.bind ?_ (fun _ => ?_)
def hinterlandlaw02_LandShiftsLeast.T10 : Bool × List (List Nat × List Nat) := (true, [([], []), ([0], [0]), ([1], [1]), ([2, 1], [2]), ([3], [3]), ([4, 3], [3, 4]), ([3], [3]), ([6, 3], [3, 6]), ([5, 7, 3], [3, 5, 7]), ([3, 8], [3, 8]), ([9, 3], [9]), ([10], [10]), ([11, 10], [10, 11]), ([10], [10]), ([13, 10], [10, 13]), ([12, 14, 10], [10, 12, 14]), ([10, 15], [10, 15]), ([16, 10], [16]), ([17], [17]), ([17], [17]), ([19, 17], [17, 19]), ([20, 17], [17, 20]), ([18, 21, 17], [17, 18, 21]), ([17, 22], [17, 22]), ([23, 17], [23]), ([24], [24]), ([25, 24], [24, 25]), ([24], [24]), ([26, 27, 24], [24, 26, 27]), ([28, 24], [24, 28]), ([24], [24]), ([30, 24], [24, 30]), ([24], [24]), ([31, 32, 24], [24, 31, 32]), ([33, 24], [24, 33]), ([24], [24]), ([34, 35, 24], [24, 34, 35]), ([29, 36, 24], [24, 29, 36]), ([24, 37], [24, 37])])
def hinterlandlaw02_LandShiftsLeast.B10 : List Nat := [0, 1, 3, 7, 15, 31, 15, 79, 255, 511, 1023, 2047, 4095, 2047, 10239, 32767, 65535, 131071, 262143, 262143, 786431, 1835007, 4194303, 8388607, 16777215, 33554431, 67108863, 33554431, 268435455, 536870911, 33554431, 1107296255, 33554431, 7549747199, 16139681791, 33554431, 67679289343, 137438953471, 274877906943]
theorem hinterlandlaw02_LandShiftsLeast.tab10 : rtab .any (opsOf Try.f5 10) = hinterlandlaw02_LandShiftsLeast.T10 := by kernel_rfl
theorem hinterlandlaw02_LandShiftsLeast.bits10 : waitsOk hinterlandlaw02_LandShiftsLeast.T10.2 hinterlandlaw02_LandShiftsLeast.B10 = true := by kernel_rfl
def hinterlandlaw02_LandShiftsLeast.T12 : Bool × List (List Nat × List Nat) := (true, [([], []), ([0], [0]), ([], []), ([2], [2]), ([], []), ([1, 3, 4], [1, 3, 4]), ([5], [5]), ([6], [6]), ([7, 6], [7]), ([8], [8]), ([8], [8]), ([9, 10, 8], [8, 9, 10]), ([11, 8], [8, 11]), ([8], [8]), ([13, 8], [8, 13]), ([8], [8]), ([14, 15, 8], [8, 14, 15]), ([16, 8], [8, 16]), ([12, 17, 8], [8, 12, 17]), ([8], [8]), ([18, 19, 8], [8, 18, 19]), ([20, 8], [8, 20]), ([8, 21], [8, 21]), ([22, 8, 0, 1, 2, 3, 4, 5, 6, 7, 8, 9, 10, 11, 12, 13, 14, 15, 16, 17, 18, 19, 20, 21, 22], [22])])
def hinterlandlaw02_LandShiftsLeast.B12 : List Nat := [0, 1, 0, 4, 0, 31, 63, 127, 255, 511, 511, 2047, 4095, 511, 8703, 511, 57855, 123391, 262143, 511, 1048575, 2097151, 4194303, 8388607]
theorem hinterlandlaw02_LandShiftsLeast.tab12 : rtab .any (opsOf Try.f5 12) = hinterlandlaw02_LandShiftsLeast.T12 := by kernel_rfl
theorem hinterlandlaw02_LandShiftsLeast.bits12 : waitsOk hinterlandlaw02_LandShiftsLeast.T12.2 hinterlandlaw02_LandShiftsLeast.B12 = true := by kernel_rfl
def hinterlandlaw02_LandShiftsLeast.T16 : Bool × List (List Nat × List Nat) := (true, [([], []), ([0], [0]), ([1], [1]), ([1], [1]), ([2, 3, 1], [1, 2, 3]), ([4, 1], [1, 4]), ([1], [1]), ([6, 1], [1, 6]), ([1], [1]), ([7, 8, 1], [1, 7, 8]), ([9, 1], [1, 9]), ([5, 10, 1], [1, 5, 10]), ([1], [1]), ([11, 12, 1], [1, 11, 12]), ([13, 1], [1, 13]), ([1, 14], [1, 14]), ([15, 1, 0, 1, 2, 3, 4, 5, 6, 7, 8, 9, 10, 11, 12, 13, 14, 15], [0, 15])])
def hinterlandlaw02_LandShiftsLeast.B16 : List Nat := [0, 1, 3, 3, 15, 31, 3, 67, 3, 451, 963, 2047, 3, 8191, 16383, 32767, 65535]
theorem hinterlandlaw02_LandShiftsLeast.tab16 : rtab .any (opsOf Try.f5 16) = hinterlandlaw02_LandShiftsLeast.T16 := by kernel_rfl
theorem hinterlandlaw02_LandShiftsLeast.bits16 : waitsOk hinterlandlaw02_LandShiftsLeast.T16.2 hinterlandlaw02_LandShiftsLeast.B16 = true := by kernel_rfl
def hinterlandlaw02_LandShiftsLeast.T22 : Bool × List (List Nat × List Nat) := (true, [([], []), ([0], [0]), ([], []), ([1, 2], [1, 2]), ([3], [3]), ([], []), ([5], [5]), ([], []), ([6, 7], [6, 7]), ([8], [8]), ([4, 9], [4, 9])])
def hinterlandlaw02_LandShiftsLeast.B22 : List Nat := [0, 1, 0, 7, 15, 0, 32, 0, 224, 480, 1023]
theorem hinterlandlaw02_LandShiftsLeast.tab22 : rtab .any (opsOf Try.f5 22) = hinterlandlaw02_LandShiftsLeast.T22 := by kernel_rfl
theorem hinterlandlaw02_LandShiftsLeast.bits22 : waitsOk hinterlandlaw02_LandShiftsLeast.T22.2 hinterlandlaw02_LandShiftsLeast.B22 = true := by kernel_rfl
def hinterlandlaw02_LandShiftsLeast.T23 : Bool × List (List Nat × List Nat) := (true, [([], []), ([0], [0]), ([], []), ([1, 2], [1, 2]), ([3], [3]), ([], []), ([5], [5]), ([], []), ([6, 7], [6, 7]), ([8], [8]), ([], []), ([9, 10], [9, 10]), ([4, 11], [4, 11]), ([12], [12]), ([13], [13]), ([13], [13]), ([15, 13], [13, 15]), ([14, 16, 13], [13, 14, 16]), ([13, 17], [13, 17]), ([18, 13], [18]), ([19], [19]), ([19], [19]), ([20, 21, 19], [19, 20, 21]), ([22, 19], [19, 22]), ([19], [19]), ([19], [19]), ([25, 19], [19, 25]), ([26, 19], [19, 26]), ([24, 27, 19], [19, 24, 27]), ([19], [19]), ([19], [19]), ([30, 19], [19, 30]), ([31, 19], [19, 31]), ([29, 32, 19], [19, 29, 32]), ([19], [19]), ([34, 19], [19, 34]), ([19], [19]), ([35, 36, 19], [19, 35, 36]), ([37, 19], [19, 37]), ([28, 33, 38, 19], [19, 28, 33, 38]), ([23, 39, 19], [19, 23, 39]), ([19, 40], [19, 40])])
def hinterlandlaw02_LandShiftsLeast.B23 : List Nat := [0, 1, 0, 7, 15, 0, 32, 0, 224, 480, 0, 2016, 4095, 8191, 16383, 16383, 49151, 131071, 262143, 524287, 1048575, 1048575, 4194303, 8388607, 1048575, 1048575, 34603007, 101711871, 252706815, 1048575, 1048575, 1074790399, 3222274047, 8054112255, 1048575, 17180917759, 1048575, 120260132863, 257699086335, 549740085247, 1099511627775, 2199023255551]
theorem hinterlandlaw02_LandShiftsLeast.tab23 : rtab .any (opsOf Try.f5 23) = hinterlandlaw02_LandShiftsLeast.T23 := by kernel_rfl
theorem hinterlandlaw02_LandShiftsLeast.bits23 : waitsOk hinterlandlaw02_LandShiftsLeast.T23.2 hinterlandlaw02_LandShiftsLeast.B23 = true := by kernel_rfl
def hinterlandlaw02_LandShiftsLeast.T26 : Bool × List (List Nat × List Nat) := (true, [([], []), ([0], [0]), ([1], [1]), ([1], [1]), ([2, 3, 1], [1, 2, 3]), ([4, 1], [1, 4]), ([1], [1]), ([6, 1], [1, 6]), ([1], [1]), ([7, 8, 1], [1, 7, 8]), ([9, 1], [1, 9]), ([5, 10, 1], [1, 5, 10]), ([1], [1]), ([11, 12, 1], [1, 11, 12]), ([13, 1], [1, 13]), ([1, 14], [1, 14])])
def hinterlandlaw02_LandShiftsLeast.B26 : List Nat := [0, 1, 3, 3, 15, 31, 3, 67, 3, 451, 963, 2047, 3, 8191, 16383, 32767]
theorem hinterlandlaw02_LandShiftsLeast.tab26 : rtab .any (opsOf Try.f5 26) = hinterlandlaw02_LandShiftsLeast.T26 := by kernel_rfl
theorem hinterlandlaw02_LandShiftsLeast.bits26 : waitsOk hinterlandlaw02_LandShiftsLeast.T26.2 hinterlandlaw02_LandShiftsLeast.B26 = true := by kernel_rfl
set_option maxHeartbeats 80000000 in
set_option maxRecDepth 100000 in
theorem hinterlandlaw02_LandShiftsLeast.calls (k : Nat) (a0_0 : Int) (a0_1 : Int) (A0_2 : Option Addr) (c0_2 : Nat) (l0_2 : List Int) (a1 : Int) (a2 : Int) (a3 : Bool) (P4_ : Nat → Prop) (A4 : Option Addr) (c4 : Nat) (l4 : List Int) (r : Bool) (w : World) (hr0_2 : Kd.C (Kd.int .i64) w A0_2 l0_2.length l0_2) (hc0_2 : l0_2.length ≤ c0_2) (hs4 : Kd.V (Kd.int .i64) 3 w w.heap.size (fun k_ => P4_ k_) (.slice A4 l4.length c4) l4) (h : hinterlandlaw02_LandShiftsLeast.f k a0_0 a0_1 l0_2 a1 a2 a3 l4 = some r) :
    Calls Try.prog 5 #[.agg #[.int .i64 a0_0, .int .i64 a0_1, .slice A0_2 l0_2.length c0_2], .int .i64 a1, .int .i64 a2, .bool a3, .slice A4 l4.length c4] w fun e w' => e = .returned (.bool r) ∧ Below w.heap.size w w' := by
 have hu24 := Try.underlying24
 have hu36 := Try.underlying36
 have HR0_2 := Aside0.mk hr0_2
 have HC0_2 := Aside0.mk hc0_2
 clear hr0_2 hc0_2
 have HO4 := Aside0.mk (show Kd.V (Kd.int .i64) 3 w w.heap.size (fun k_ => (P4_ k_ ∨ w.heap.size ≤ k_)) (.slice A4 l4.length c4) l4 from Kd.V_mono hs4 (fun k_ hk => .inl hk))
 have HB := Aside0.mk (Below.refl w.heap.size w)
 have H : ((hinterlandlaw02_large.f k a0_0 a0_1 l0_2 (([l4] : List (List Int)))).bind fun t264 => (if t264 = true then ((hinterlandlaw02_known.f k).bind fun t265 => (some t265)) else ((land_Shift.f k a0_0 a0_1 l0_2 a1 a2 a3 ([] : List Int)).bind fun bt266 => (if bt266.2.2.2.2.2 = 0 then (if a3 = true then (hinterlandlaw02_LandShiftsLeast.j1 k a1 a2 l4 bt266.2.2.2.1 bt266.2.2.2.2.1 1 a0_0 a0_1 l0_2 bt266.1 bt266.2.1 bt266.2.2.1) else (hinterlandlaw02_LandShiftsLeast.j1 k a1 a2 l4 bt266.2.2.2.1 bt266.2.2.2.2.1 (-1) a0_0 a0_1 l0_2 bt266.1 bt266.2.1 bt266.2.2.1)) else (if (bt266.2.2.1.length : Int) = 0 then (if (bt266.2.2.2.1.length : Int) = 0 then (if bt266.2.2.2.2.1 = 0 then ((hinterlandlaw02_known.f k).bind fun t277 => (hinterlandlaw02_LandShiftsLeast.j0 k t277)) else (hinterlandlaw02_LandShiftsLeast.j0 k false)) else (hinterlandlaw02_LandShiftsLeast.j0 k false)) else (hinterlandlaw02_LandShiftsLeast.j0 k false)))))) = some r := h
 clear h
 obtain ⟨y261, hy261⟩ : ∃ y_ : List (List Int), y_ = (([l4] : List (List Int))) := ⟨_, rfl⟩
 replace H : ((hinterlandlaw02_large.f k a0_0 a0_1 l0_2 y261).bind fun t264 => (if t264 = true then ((hinterlandlaw02_known.f k).bind fun t265 => (some t265)) else ((land_Shift.f k a0_0 a0_1 l0_2 a1 a2 a3 ([] : List Int)).bind fun bt266 => (if bt266.2.2.2.2.2 = 0 then (if a3 = true then (hinterlandlaw02_LandShiftsLeast.j1 k a1 a2 l4 bt266.2.2.2.1 bt266.2.2.2.2.1 1 a0_0 a0_1 l0_2 bt266.1 bt266.2.1 bt266.2.2.1) else (hinterlandlaw02_LandShiftsLeast.j1 k a1 a2 l4 bt266.2.2.2.1 bt266.2.2.2.2.1 (-1) a0_0 a0_1 l0_2 bt266.1 bt266.2.1 bt266.2.2.1)) else (if (bt266.2.2.1.length : Int) = 0 then (if (bt266.2.2.2.1.length : Int) = 0 then (if bt266.2.2.2.2.1 = 0 then ((hinterlandlaw02_known.f k).bind fun t277 => (hinterlandlaw02_LandShiftsLeast.j0 k t277)) else (hinterlandlaw02_LandShiftsLeast.j0 k false)) else (hinterlandlaw02_LandShiftsLeast.j0 k false)) else (hinterlandlaw02_LandShiftsLeast.j0 k false)))))) = some r := by first | (rw [hy261]; with_reducible exact H) | (have H2_ := (Option.bind_some _ _).symm.trans H; rw [hy261]; with_reducible exact H2_) | (have H2_ := (Option.bind_some _ _).symm.trans H; with_reducible exact H2_) | with_reducible exact H | (rw [hy261]; exact H) | exact H
 have Ny261 := Aside0.mk hy261
 clear hy261
 replace H := Option.bind_eq_some_iff.mp H
 obtain ⟨t264, A60, H⟩ := H
 replace H : (if t264 = true then ((hinterlandlaw02_known.f k).bind fun t265 => (some t265)) else ((land_Shift.f k a0_0 a0_1 l0_2 a1 a2 a3 ([] : List Int)).bind fun bt266 => (if bt266.2.2.2.2.2 = 0 then (if a3 = true then (hinterlandlaw02_LandShiftsLeast.j1 k a1 a2 l4 bt266.2.2.2.1 bt266.2.2.2.2.1 1 a0_0 a0_1 l0_2 bt266.1 bt266.2.1 bt266.2.2.1) else (hinterlandlaw02_LandShiftsLeast.j1 k a1 a2 l4 bt266.2.2.2.1 bt266.2.2.2.2.1 (-1) a0_0 a0_1 l0_2 bt266.1 bt266.2.1 bt266.2.2.1)) else (if (bt266.2.2.1.length : Int) = 0 then (if (bt266.2.2.2.1.length : Int) = 0 then (if bt266.2.2.2.2.1 = 0 then ((hinterlandlaw02_known.f k).bind fun t277 => (hinterlandlaw02_LandShiftsLeast.j0 k t277)) else (hinterlandlaw02_LandShiftsLeast.j0 k false)) else (hinterlandlaw02_LandShiftsLeast.j0 k false)) else (hinterlandlaw02_LandShiftsLeast.j0 k false))))) = some r := H
 have A6 := Aside0.mk A60
 clear A60
 by_cases c7 : t264 = true
 ·subst c7
  have H1 : ((hinterlandlaw02_known.f k).bind fun t265 => (some t265)) = some r := by rw [if_pos rfl] at H; exact H
  clear H
  have H := H1
  clear H1
  replace H := Option.bind_eq_some_iff.mp H
  obtain ⟨t265, A80, H⟩ := H
  replace H : (some t265) = some r := H
  have A8 := Aside0.mk A80
  clear A80
  obtain rfl := Option.some.inj H
  go_enter Try.func5, Try.ntmps5
  go_wp2_with (first | ((with_reducible refine gate_dst (N := 5) rfl ?_); (try (refine gate_guard (by rfl) ?_; dsimp only)); refine box_event ?hg (N := 5) ?hd (cs := #[.int .i64 a0_0, .int .i64 a0_1, .slice A0_2 l0_2.length c0_2]) (t := 24) ?hr ?_; (case hd => rfl); (case hg => rfl); (case hr => first | (go_simp; done) | (go_simp; rfl)); intro gb260 hg w9 hbox hb; replace HO4 := Aside0.mk (Kd.V_below (Kd.V_elderB (by (with_reducible repeat (first | apply Kd.V_alloc | apply Kd.V_drewN | apply Kd.V_drew)); exact HO4.out) gb260 (Nat.le_of_eq hg.symm)) hb); have BK260 := Aside0.mk (hbox); have GW260 := Aside0.mk ((dS_ hg (dL_ HB) : w.heap.size ≤ gb260)); have GE260 := Aside0.mk ((dS_ hg (dL_ HB) : w.heap.size ≤ gb260)); replace HB := Aside0.mk (below_step (dL_ HB) hb); clear hb hbox hg; obtain ⟨hcz10_0, hcz10_1, hcz10_2, hfz10_0, hfz10_1, hfz10_2⟩ := cs3_ BK260.out) | ((with_reducible refine gate_dst (N := 23) rfl ?_); (try (refine gate_guard (by rfl) ?_; dsimp only)); refine Kd.N_lit (Kd.slice 3 (Kd.int .i64)) _ 22 ?hg (N' := 23) ?hd (xs := ([l4] : List (List Int))) (inner := [.slice A4 l4.length c4]) (ok := (fun k_ => (P4_ k_ ∨ w.heap.size ≤ k_) ∧ k_ ≠ gb260)) (okp := (fun k_ => (P4_ k_ ∨ w.heap.size ≤ k_) ∧ k_ ≠ gb260)) ?hr ?hp (fun _ hk => hk) ((show ∀ k_, w9.heap.size ≤ k_ → (fun k_ => (P4_ k_ ∨ w.heap.size ≤ k_) ∧ k_ ≠ gb260) k_ from fun k_ hk => ⟨(.inr (Nat.le_trans (below_size (dL1_ HB GE260)) hk)), Kd.freshB (g := gb260) (o := .cells #[.int .i64 a0_0, .int .i64 a0_1, .slice A0_2 l0_2.length c0_2] 24 (0, 0)) (dB_ BK260) k_ hk⟩) _ (Nat.le_refl _)) (Below.refl _ _) (Nat.le_refl _) (by simp) ?_; (case hd => rfl); (case hg => rfl); (case hr => first | (go_simp; done) | (go_simp; rfl)); (case hp => exact (Reps.one (show Kd.FK (Kd.slice 3 (Kd.int .i64)) _ _ l4 [.slice A4 l4.length c4] from (Kd.FK_slice_mk (Kd.V_reads' (Kd.V_mono (ok' := (fun k_ => (P4_ k_ ∨ w.heap.size ≤ k_) ∧ k_ ≠ gb260)) (HO4.out) (fun k_ hk => ⟨hk.1, hk.2⟩))).2.1 (Kd.V_F (Kd.V_mono (ok' := (fun k_ => (P4_ k_ ∨ w.heap.size ≤ k_) ∧ k_ ≠ gb260)) (HO4.out) (fun k_ hk => ⟨hk.1, hk.2⟩))))) (Reps.none _ _))); intro v262 w11 ho12 hb hg_ hnew_; clear hg_ hnew_; (first | rw [← Ny261.out] at ho12 | (simp only [Int.reduceToNat] at ho12; rw [← Ny261.out] at ho12)); replace HO4 := Aside0.mk (Kd.V_elder' (by (with_reducible repeat (first | apply Kd.V_alloc | apply Kd.V_drewN | apply Kd.V_drew)); exact HO4.out) (Kd.N_base ho12) hb); have HO263 := Aside0.mk (Kd.N_lower ho12 (below_size (dL1_ HB GE260))); replace BK260 := Aside0.mk (blk_below (g := gb260) (o := .cells #[.int .i64 a0_0, .int .i64 a0_1, .slice A0_2 l0_2.length c0_2] 24 (0, 0)) (dB_ BK260) hb); replace HB := Aside0.mk (below_step (dL1_ HB GE260) hb); clear hb ho12; obtain ⟨Ao13, co13, eo13⟩ := Kd.N_slice HO263.out; subst eo13) | ((with_reducible refine gate_callee (f := 15) rfl ?_); refine goesL_ (some 24) rfl rfl Try.func15 (by kernel_rfl) rfl #[.agg #[.int .i64 a0_0, .int .i64 a0_1, .slice A0_2 l0_2.length c0_2], .slice Ao13 y261.length co13] rfl tA_ ?_; (with_reducible refine (hinterlandlaw02_large.calls k a0_0 a0_1 _ _ l0_2 _ _ y261 true _ ?side1 ?side2 ?side3 ?side4 A6.out).mono ?_); (case side1 => exact dC_ HR0_2 HB); (case side2 => exact HC0_2.out); (case side3 => repeat (first | exact (Kd.N_reads' HO263.out).2.2 | (with_reducible refine Kd.C_alloc ?_ _) | (with_reducible refine Kd.C_drewN ?_ _) | (with_reducible refine Kd.C_drew ?_))); (case side4 => exact (Kd.N_reads' HO263.out).2.1); rintro e w14 ⟨rfl, hb⟩; refine ⟨_, rfl, ?_⟩; replace HO4 := Aside0.mk (Kd.V_below (by (with_reducible repeat (first | apply Kd.V_alloc | apply Kd.V_drewN | apply Kd.V_drew)); exact HO4.out) hb); replace HO263 := Aside0.mk (Kd.N_below (by (with_reducible repeat (first | apply Kd.N_alloc | apply Kd.N_drewN | apply Kd.N_drew)); exact HO263.out) hb); replace BK260 := Aside0.mk (blk_below (g := gb260) (o := .cells #[.int .i64 a0_0, .int .i64 a0_1, .slice A0_2 l0_2.length c0_2] 24 (0, 0)) (dB_ BK260) hb); replace HB := Aside0.mk (below_step (dL1_ HB GE260) hb)) | ((with_reducible refine gate_callee (f := 16) rfl ?_); refine goesL_ (some 25) rfl rfl Try.func16 (by kernel_rfl) rfl #[] rfl tA_ ?_; (with_reducible refine (hinterlandlaw02_known.calls k  t265 _ A8.out).mono ?_); rintro e w15 ⟨rfl, hb⟩; refine ⟨_, rfl, ?_⟩; replace HO4 := Aside0.mk (Kd.V_below (by (with_reducible repeat (first | apply Kd.V_alloc | apply Kd.V_drewN | apply Kd.V_drew)); exact HO4.out) hb); replace HO263 := Aside0.mk (Kd.N_below (by (with_reducible repeat (first | apply Kd.N_alloc | apply Kd.N_drewN | apply Kd.N_drew)); exact HO263.out) hb); replace BK260 := Aside0.mk (blk_below (g := gb260) (o := .cells #[.int .i64 a0_0, .int .i64 a0_1, .slice A0_2 l0_2.length c0_2] 24 (0, 0)) (dB_ BK260) hb); replace HB := Aside0.mk (below_step (dL1_ HB GE260) hb)))
  go_ret
  exact ⟨tE_, dL1_ HB GE260⟩
 ·replace c7 := Bool.eq_false_iff.mpr c7
  subst c7
  have H1 : ((land_Shift.f k a0_0 a0_1 l0_2 a1 a2 a3 ([] : List Int)).bind fun bt266 => (if bt266.2.2.2.2.2 = 0 then (if a3 = true then (hinterlandlaw02_LandShiftsLeast.j1 k a1 a2 l4 bt266.2.2.2.1 bt266.2.2.2.2.1 1 a0_0 a0_1 l0_2 bt266.1 bt266.2.1 bt266.2.2.1) else (hinterlandlaw02_LandShiftsLeast.j1 k a1 a2 l4 bt266.2.2.2.1 bt266.2.2.2.2.1 (-1) a0_0 a0_1 l0_2 bt266.1 bt266.2.1 bt266.2.2.1)) else (if (bt266.2.2.1.length : Int) = 0 then (if (bt266.2.2.2.1.length : Int) = 0 then (if bt266.2.2.2.2.1 = 0 then ((hinterlandlaw02_known.f k).bind fun t277 => (hinterlandlaw02_LandShiftsLeast.j0 k t277)) else (hinterlandlaw02_LandShiftsLeast.j0 k false)) else (hinterlandlaw02_LandShiftsLeast.j0 k false)) else (hinterlandlaw02_LandShiftsLeast.j0 k false)))) = some r := by rw [if_neg (show ¬ (false = true) by decide)] at H; exact H
  clear H
  have H := H1
  clear H1
  replace H := Option.bind_eq_some_iff.mp H
  obtain ⟨⟨t266, t267, t268, t271, t274, t275⟩, A160, H⟩ := H
  replace H : (if t275 = 0 then (if a3 = true then (hinterlandlaw02_LandShiftsLeast.j1 k a1 a2 l4 t271 t274 1 a0_0 a0_1 l0_2 t266 t267 t268) else (hinterlandlaw02_LandShiftsLeast.j1 k a1 a2 l4 t271 t274 (-1) a0_0 a0_1 l0_2 t266 t267 t268)) else (if (t268.length : Int) = 0 then (if (t271.length : Int) = 0 then (if t274 = 0 then ((hinterlandlaw02_known.f k).bind fun t277 => (hinterlandlaw02_LandShiftsLeast.j0 k t277)) else (hinterlandlaw02_LandShiftsLeast.j0 k false)) else (hinterlandlaw02_LandShiftsLeast.j0 k false)) else (hinterlandlaw02_LandShiftsLeast.j0 k false))) = some r := H
  have A16 := Aside0.mk A160
  clear A160
  by_cases c17 : t275 = 0
  ·rw [if_pos c17] at H
   have c17b0 : (t275 == 0) = true := beq_iff_eq.mpr c17
   have c17b1 : (t275 != 0) = false := bne_eq_false_iff_eq.mpr c17
   clear c17
   have HC18 := Aside0.mk H
   clear H
   go_enter Try.func5, Try.ntmps5
   go_upto_if 54 with (first | ((with_reducible refine gate_dst (N := 5) rfl ?_); (try (refine gate_guard (by rfl) ?_; dsimp only)); refine box_event ?hg (N := 5) ?hd (cs := #[.int .i64 a0_0, .int .i64 a0_1, .slice A0_2 l0_2.length c0_2]) (t := 24) ?hr ?_; (case hd => rfl); (case hg => rfl); (case hr => first | (go_simp; done) | (go_simp; rfl)); intro gb260 hg w19 hbox hb; replace HO4 := Aside0.mk (Kd.V_below (Kd.V_elderB (by (with_reducible repeat (first | apply Kd.V_alloc | apply Kd.V_drewN | apply Kd.V_drew)); exact HO4.out) gb260 (Nat.le_of_eq hg.symm)) hb); have BK260 := Aside0.mk (hbox); have GW260 := Aside0.mk ((dS_ hg (dL_ HB) : w.heap.size ≤ gb260)); have GE260 := Aside0.mk ((dS_ hg (dL_ HB) : w.heap.size ≤ gb260)); replace HB := Aside0.mk (below_step (dL_ HB) hb); clear hb hbox hg; obtain ⟨hcz20_0, hcz20_1, hcz20_2, hfz20_0, hfz20_1, hfz20_2⟩ := cs3_ BK260.out) | ((with_reducible refine gate_dst (N := 23) rfl ?_); (try (refine gate_guard (by rfl) ?_; dsimp only)); refine Kd.N_lit (Kd.slice 3 (Kd.int .i64)) _ 22 ?hg (N' := 23) ?hd (xs := ([l4] : List (List Int))) (inner := [.slice A4 l4.length c4]) (ok := (fun k_ => (P4_ k_ ∨ w.heap.size ≤ k_) ∧ k_ ≠ gb260)) (okp := (fun k_ => (P4_ k_ ∨ w.heap.size ≤ k_) ∧ k_ ≠ gb260)) ?hr ?hp (fun _ hk => hk) ((show ∀ k_, w19.heap.size ≤ k_ → (fun k_ => (P4_ k_ ∨ w.heap.size ≤ k_) ∧ k_ ≠ gb260) k_ from fun k_ hk => ⟨(.inr (Nat.le_trans (below_size (dL1_ HB GE260)) hk)), Kd.freshB (g := gb260) (o := .cells #[.int .i64 a0_0, .int .i64 a0_1, .slice A0_2 l0_2.length c0_2] 24 (0, 0)) (dB_ BK260) k_ hk⟩) _ (Nat.le_refl _)) (Below.refl _ _) (Nat.le_refl _) (by simp) ?_; (case hd => rfl); (case hg => rfl); (case hr => first | (go_simp; done) | (go_simp; rfl)); (case hp => exact (Reps.one (show Kd.FK (Kd.slice 3 (Kd.int .i64)) _ _ l4 [.slice A4 l4.length c4] from (Kd.FK_slice_mk (Kd.V_reads' (Kd.V_mono (ok' := (fun k_ => (P4_ k_ ∨ w.heap.size ≤ k_) ∧ k_ ≠ gb260)) (HO4.out) (fun k_ hk => ⟨hk.1, hk.2⟩))).2.1 (Kd.V_F (Kd.V_mono (ok' := (fun k_ => (P4_ k_ ∨ w.heap.size ≤ k_) ∧ k_ ≠ gb260)) (HO4.out) (fun k_ hk => ⟨hk.1, hk.2⟩))))) (Reps.none _ _))); intro v262 w21 ho22 hb hg_ hnew_; clear hg_ hnew_; (first | rw [← Ny261.out] at ho22 | (simp only [Int.reduceToNat] at ho22; rw [← Ny261.out] at ho22)); replace HO4 := Aside0.mk (Kd.V_elder' (by (with_reducible repeat (first | apply Kd.V_alloc | apply Kd.V_drewN | apply Kd.V_drew)); exact HO4.out) (Kd.N_base ho22) hb); have HO263 := Aside0.mk (Kd.N_lower ho22 (below_size (dL1_ HB GE260))); replace BK260 := Aside0.mk (blk_below (g := gb260) (o := .cells #[.int .i64 a0_0, .int .i64 a0_1, .slice A0_2 l0_2.length c0_2] 24 (0, 0)) (dB_ BK260) hb); replace HB := Aside0.mk (below_step (dL1_ HB GE260) hb); clear hb ho22; obtain ⟨Ao23, co23, eo23⟩ := Kd.N_slice HO263.out; subst eo23) | ((with_reducible refine gate_callee (f := 15) rfl ?_); refine goesL_ (some 24) rfl rfl Try.func15 (by kernel_rfl) rfl #[.agg #[.int .i64 a0_0, .int .i64 a0_1, .slice A0_2 l0_2.length c0_2], .slice Ao23 y261.length co23] rfl tA_ ?_; (with_reducible refine (hinterlandlaw02_large.calls k a0_0 a0_1 _ _ l0_2 _ _ y261 false _ ?side1 ?side2 ?side3 ?side4 A6.out).mono ?_); (case side1 => exact dC_ HR0_2 HB); (case side2 => exact HC0_2.out); (case side3 => repeat (first | exact (Kd.N_reads' HO263.out).2.2 | (with_reducible refine Kd.C_alloc ?_ _) | (with_reducible refine Kd.C_drewN ?_ _) | (with_reducible refine Kd.C_drew ?_))); (case side4 => exact (Kd.N_reads' HO263.out).2.1); rintro e w24 ⟨rfl, hb⟩; refine ⟨_, rfl, ?_⟩; replace HO4 := Aside0.mk (Kd.V_below (by (with_reducible repeat (first | apply Kd.V_alloc | apply Kd.V_drewN | apply Kd.V_drew)); exact HO4.out) hb); replace HO263 := Aside0.mk (Kd.N_below (by (with_reducible repeat (first | apply Kd.N_alloc | apply Kd.N_drewN | apply Kd.N_drew)); exact HO263.out) hb); replace BK260 := Aside0.mk (blk_below (g := gb260) (o := .cells #[.int .i64 a0_0, .int .i64 a0_1, .slice A0_2 l0_2.length c0_2] 24 (0, 0)) (dB_ BK260) hb); replace HB := Aside0.mk (below_step (dL1_ HB GE260) hb); obtain ⟨hcz25_0, hcz25_1, hcz25_2, hfz25_0, hfz25_1, hfz25_2⟩ := cs3_ BK260.out) | ((with_reducible refine gate_callee (f := 19) rfl ?_); refine goesL_ (some 31) rfl rfl Try.func19 (by kernel_rfl) rfl #[.agg #[.int .i64 a0_0, .int .i64 a0_1, .slice A0_2 l0_2.length c0_2], .int .i64 a1, .int .i64 a2, .bool a3, .slice none 0 0] rfl tA_ ?_; (refine (land_Shift.calls k a0_0 a0_1 _ _ l0_2 a1 a2 a3 _ _ ([] : List Int) t266 t267 t268 t271 t274 t275 _ ?side1 ?side2 ?side3 ?side4 A16.out).mono ?_); (case side1 => exact dC_ HR0_2 HB); (case side2 => exact HC0_2.out); (case side3 => exact Kd.C_nil _ _); (case side4 => exact Nat.le_refl _); rintro e w26 ⟨v269, v272, rfl, ho0, ho1, hb⟩; refine ⟨_, rfl, ?_⟩; replace HO4 := Aside0.mk (Kd.V_mono (Kd.V_told (Kd.V_told (Kd.V_old (by (with_reducible repeat (first | apply Kd.V_alloc | apply Kd.V_drewN | apply Kd.V_drew)); exact HO4.out) hb) (Kd.R_base ho0)) (Kd.R_base ho1)) (fun _ h_ => h_.1)); replace HO263 := Aside0.mk (Kd.N_mono (Kd.N_told (Kd.N_told (Kd.N_old (by (with_reducible repeat (first | apply Kd.N_alloc | apply Kd.N_drewN | apply Kd.N_drew)); exact HO263.out) hb) (Kd.R_base ho0)) (Kd.R_base ho1)) (fun _ h_ => h_.1)); have HO270 := Aside0.mk (Kd.R_lower (Kd.R_newM (M := fun k_ => (w.heap.size ≤ k_)) ho0 (below_size (dL1_ HB GE260)) (fun k_ h_ => h_)) (below_size (dL1_ HB GE260))); have HO273 := Aside0.mk (Kd.R_lower (Kd.R_newM (M := fun k_ => (w.heap.size ≤ k_)) ho1 (below_size (dL1_ HB GE260)) (fun k_ h_ => h_)) (below_size (dL1_ HB GE260))); replace BK260 := Aside0.mk (blk_below (g := gb260) (o := .cells #[.int .i64 a0_0, .int .i64 a0_1, .slice A0_2 l0_2.length c0_2] 24 (0, 0)) (dB_ BK260) hb); replace HB := Aside0.mk (below_step (dL1_ HB GE260) hb)) | ((with_reducible refine gate_dst (N := 11) rfl ?_); (try (refine gate_guard (by rfl) ?_; dsimp only)); refine box_event ?hg (N := 11) ?hd (cs := #[.int .i64 0, .int .i64 0, .slice none 0 0]) (t := 24) ?hr ?_; (case hd => rfl); (case hg => rfl); (case hr => first | (go_simp; done) | (go_simp; rfl)); intro gb276 hg w27 hbox hb; replace HO4 := Aside0.mk (Kd.V_below (Kd.V_elderB (by (with_reducible repeat (first | apply Kd.V_alloc | apply Kd.V_drewN | apply Kd.V_drew)); exact HO4.out) gb276 (Nat.le_of_eq hg.symm)) hb); replace HO263 := Aside0.mk (Kd.N_below (Kd.N_elderB (by (with_reducible repeat (first | apply Kd.N_alloc | apply Kd.N_drewN | apply Kd.N_drew)); exact HO263.out) gb276 (Nat.le_of_eq hg.symm)) hb); replace HO270 := Aside0.mk (Kd.R_below (dR_ HO270) hb); replace HO273 := Aside0.mk (Kd.R_below (dR_ HO273) hb); have BK276 := Aside0.mk (hbox); have GW276 := Aside0.mk ((dS_ hg (dL1_ HB GE260) : w.heap.size ≤ gb276)); have GE276 := Aside0.mk ((dS_ hg (dL1_ HB GE260) : w.heap.size ≤ gb276)); replace HB := Aside0.mk (below_step (dL1_ HB GE260) hb); have NB260_276 := Aside0.mk ((by rw [hg]; exact Nat.ne_of_lt (blk_lt (dB_ BK260)) : gb260 ≠ gb276)); have NB276_260 := Aside0.mk ((by rw [hg]; exact Nat.ne_of_gt (blk_lt (dB_ BK260)) : gb276 ≠ gb260)); replace BK260 := Aside0.mk (blk_below (g := gb260) (o := .cells #[.int .i64 a0_0, .int .i64 a0_1, .slice A0_2 l0_2.length c0_2] 24 (0, 0)) (dB_ BK260) hb); clear hb hbox hg; have hnb28 := NB276_260.out; have hnc28 := NB260_276.out; obtain ⟨hcz29_0, hcz29_1, hcz29_2, hfz29_0, hfz29_1, hfz29_2⟩ := cs3_ BK276.out; obtain ⟨Ao30, co30, eo30⟩ := Kd.R_slice HO270.out; subst eo30))
   (try simp only [Act.put, sI_, s0_, sS_])
   go_cut [15] (fun v15 wc => ∃ (kq : Nat) (x15_17 : Int), v15 = .int .i64 x15_17 ∧ Aside0 (hinterlandlaw02_LandShiftsLeast.j1 kq a1 a2 l4 t271 t274 x15_17 a0_0 a0_1 l0_2 t266 t267 t268 = some r) ∧ Aside0 (kq ≤ k) ∧ Aside0 (Kd.V (Kd.int .i64) 3 wc w.heap.size (fun k_ => (P4_ k_ ∨ w.heap.size ≤ k_) ∧ some k_ ≠ (v272 : Value).ownBlock ∧ some k_ ≠ ((.slice Ao30 t268.length co30) : Value).ownBlock ∧ k_ ≠ gb260 ∧ k_ ≠ gb276) (.slice A4 l4.length c4) l4) ∧ Aside0 (Kd.R k36 36 wc w.heap.size (fun k_ => (w.heap.size ≤ k_)) v272 t271) ∧ Aside0 (Kd.R (Kd.int .i64) 3 wc w.heap.size (fun k_ => (w.heap.size ≤ k_)) (.slice Ao30 t268.length co30) t268) ∧ Aside0 (wc.heap[gb260]? = some (.cells #[.int .i64 a0_0, .int .i64 a0_1, (.slice A0_2 l0_2.length c0_2)] 24 (0, 0))) ∧ Aside0 (wc.heap[gb276]? = some (.cells #[.int .i64 t266, .int .i64 t267, (.slice Ao30 t268.length co30)] 24 (0, 0))) ∧ Aside0 (Below w.heap.size w wc))
   case first => as_aux_lemma =>
    have H := HC18.out
    clear HC18
    by_cases c31 : a3 = true
    ·subst c31
     have H1 : (hinterlandlaw02_LandShiftsLeast.j1 k a1 a2 l4 t271 t274 1 a0_0 a0_1 l0_2 t266 t267 t268) = some r := by rw [if_pos rfl] at H; exact H
     clear H
     have H := H1
     clear H1
     have H' := Aside0.mk H
     clear H
     go_wp2
     go_meet
     case rel => exact ⟨_, (1), tS_, H', ⟨by first | omega | exact Nat.le_refl _⟩, ⟨by (with_reducible repeat (first | apply Kd.V_alloc | apply Kd.V_drewN | apply Kd.V_drew)); exact Kd.V_mono (Kd.V_far (p := ⟨gb276, 2, none⟩) (Kd.V_far (p := ⟨gb276, 1, none⟩) (Kd.V_far (p := ⟨gb276, 0, none⟩) (Kd.V_mono HO4.out (fun k_ hk => (⟨hk, hk.2⟩ : _ ∧ k_ ≠ gb276))) (fun _ hk => hk.2) (.int .i64 t266)) (fun _ hk => hk.2) (.int .i64 t267)) (fun _ hk => hk.2) (.slice Ao30 t268.length co30)) (fun _ hk => ⟨hk.1.1.1.1.1.1, ⟨hk.1.1.2, ⟨hk.1.1.1.2, ⟨hk.1.1.1.1.1.2, hk.1.2⟩⟩⟩⟩)⟩, ⟨by (with_reducible repeat (first | apply Kd.R_alloc | apply Kd.R_drewN | apply Kd.R_drew)); exact Kd.R_mono (Kd.R_far (p := ⟨gb276, 2, none⟩) (Kd.R_far (p := ⟨gb276, 1, none⟩) (Kd.R_far (p := ⟨gb276, 0, none⟩) (Kd.R_types HO273.out BK276.out (by decide)) (fun _ hk => hk.2) (.int .i64 t266)) (fun _ hk => hk.2) (.int .i64 t267)) (fun _ hk => hk.2) (.slice Ao30 t268.length co30)) (fun _ hk => hk.1.1)⟩, ⟨by (with_reducible repeat (first | apply Kd.R_alloc | apply Kd.R_drewN | apply Kd.R_drew)); exact Kd.R_mono (Kd.R_far (p := ⟨gb276, 2, none⟩) (Kd.R_far (p := ⟨gb276, 1, none⟩) (Kd.R_far (p := ⟨gb276, 0, none⟩) (Kd.R_types HO270.out BK276.out (by decide)) (fun _ hk => hk.2) (.int .i64 t266)) (fun _ hk => hk.2) (.int .i64 t267)) (fun _ hk => hk.2) (.slice Ao30 t268.length co30)) (fun _ hk => hk.1.1)⟩, ⟨by (with_reducible repeat (first | refine blk_drewN ?_ _ | refine blk_drew ?_ | refine blk_alloc ?_ _)); refine blk_far ?_ NB260_276.out _; (with_reducible repeat (first | refine blk_drewN ?_ _ | refine blk_drew ?_ | refine blk_alloc ?_ _)); refine blk_far ?_ NB260_276.out _; (with_reducible repeat (first | refine blk_drewN ?_ _ | refine blk_drew ?_ | refine blk_alloc ?_ _)); refine blk_far ?_ NB260_276.out _; (with_reducible repeat (first | refine blk_drewN ?_ _ | refine blk_drew ?_ | refine blk_alloc ?_ _)); exact BK260.out⟩, ⟨by (with_reducible repeat (first | refine blk_drewN ?_ _ | refine blk_drew ?_ | refine blk_alloc ?_ _)); refine blk_put (cs := #[.int .i64 t266, .int .i64 t267, .slice none 0 0]) ?_ 2 _ rfl; (with_reducible repeat (first | refine blk_drewN ?_ _ | refine blk_drew ?_ | refine blk_alloc ?_ _)); refine blk_put (cs := #[.int .i64 t266, .int .i64 0, .slice none 0 0]) ?_ 1 _ rfl; (with_reducible repeat (first | refine blk_drewN ?_ _ | refine blk_drew ?_ | refine blk_alloc ?_ _)); refine blk_put (cs := #[.int .i64 0, .int .i64 0, .slice none 0 0]) ?_ 0 _ rfl; (with_reducible repeat (first | refine blk_drewN ?_ _ | refine blk_drew ?_ | refine blk_alloc ?_ _)); exact BK276.out⟩, ⟨dL2_ HB GE260 GE276⟩⟩
    ·replace c31 := Bool.eq_false_iff.mpr c31
     subst c31
     have H1 : (hinterlandlaw02_LandShiftsLeast.j1 k a1 a2 l4 t271 t274 (-1) a0_0 a0_1 l0_2 t266 t267 t268) = some r := by rw [if_neg (show ¬ (false = true) by decide)] at H; exact H
     clear H
     have H := H1
     clear H1
     have H' := Aside0.mk H
     clear H
     go_wp2
     go_meet
     case rel => exact ⟨_, ((-1)), tS_, H', ⟨by first | omega | exact Nat.le_refl _⟩, ⟨by (with_reducible repeat (first | apply Kd.V_alloc | apply Kd.V_drewN | apply Kd.V_drew)); exact Kd.V_mono (Kd.V_far (p := ⟨gb276, 2, none⟩) (Kd.V_far (p := ⟨gb276, 1, none⟩) (Kd.V_far (p := ⟨gb276, 0, none⟩) (Kd.V_mono HO4.out (fun k_ hk => (⟨hk, hk.2⟩ : _ ∧ k_ ≠ gb276))) (fun _ hk => hk.2) (.int .i64 t266)) (fun _ hk => hk.2) (.int .i64 t267)) (fun _ hk => hk.2) (.slice Ao30 t268.length co30)) (fun _ hk => ⟨hk.1.1.1.1.1.1, ⟨hk.1.1.2, ⟨hk.1.1.1.2, ⟨hk.1.1.1.1.1.2, hk.1.2⟩⟩⟩⟩)⟩, ⟨by (with_reducible repeat (first | apply Kd.R_alloc | apply Kd.R_drewN | apply Kd.R_drew)); exact Kd.R_mono (Kd.R_far (p := ⟨gb276, 2, none⟩) (Kd.R_far (p := ⟨gb276, 1, none⟩) (Kd.R_far (p := ⟨gb276, 0, none⟩) (Kd.R_types HO273.out BK276.out (by decide)) (fun _ hk => hk.2) (.int .i64 t266)) (fun _ hk => hk.2) (.int .i64 t267)) (fun _ hk => hk.2) (.slice Ao30 t268.length co30)) (fun _ hk => hk.1.1)⟩, ⟨by (with_reducible repeat (first | apply Kd.R_alloc | apply Kd.R_drewN | apply Kd.R_drew)); exact Kd.R_mono (Kd.R_far (p := ⟨gb276, 2, none⟩) (Kd.R_far (p := ⟨gb276, 1, none⟩) (Kd.R_far (p := ⟨gb276, 0, none⟩) (Kd.R_types HO270.out BK276.out (by decide)) (fun _ hk => hk.2) (.int .i64 t266)) (fun _ hk => hk.2) (.int .i64 t267)) (fun _ hk => hk.2) (.slice Ao30 t268.length co30)) (fun _ hk => hk.1.1)⟩, ⟨by (with_reducible repeat (first | refine blk_drewN ?_ _ | refine blk_drew ?_ | refine blk_alloc ?_ _)); refine blk_far ?_ NB260_276.out _; (with_reducible repeat (first | refine blk_drewN ?_ _ | refine blk_drew ?_ | refine blk_alloc ?_ _)); refine blk_far ?_ NB260_276.out _; (with_reducible repeat (first | refine blk_drewN ?_ _ | refine blk_drew ?_ | refine blk_alloc ?_ _)); refine blk_far ?_ NB260_276.out _; (with_reducible repeat (first | refine blk_drewN ?_ _ | refine blk_drew ?_ | refine blk_alloc ?_ _)); exact BK260.out⟩, ⟨by (with_reducible repeat (first | refine blk_drewN ?_ _ | refine blk_drew ?_ | refine blk_alloc ?_ _)); refine blk_put (cs := #[.int .i64 t266, .int .i64 t267, .slice none 0 0]) ?_ 2 _ rfl; (with_reducible repeat (first | refine blk_drewN ?_ _ | refine blk_drew ?_ | refine blk_alloc ?_ _)); refine blk_put (cs := #[.int .i64 t266, .int .i64 0, .slice none 0 0]) ?_ 1 _ rfl; (with_reducible repeat (first | refine blk_drewN ?_ _ | refine blk_drew ?_ | refine blk_alloc ?_ _)); refine blk_put (cs := #[.int .i64 0, .int .i64 0, .slice none 0 0]) ?_ 0 _ rfl; (with_reducible repeat (first | refine blk_drewN ?_ _ | refine blk_drew ?_ | refine blk_alloc ?_ _)); exact BK276.out⟩, ⟨dL2_ HB GE260 GE276⟩⟩
   case rest => as_aux_lemma =>
    clear HC18
    try clear c4
    try clear c7
    try clear c17
    try clear c17b0
    try clear c17b1
    try clear hcz20_0
    try clear hcz20_1
    try clear hcz20_2
    try clear hcz25_0
    try clear hcz25_1
    try clear hcz25_2
    try clear hcz29_0
    try clear hcz29_1
    try clear hcz29_2
    try clear hfz20_0
    try clear hfz20_1
    try clear hfz20_2
    try clear hfz25_0
    try clear hfz25_1
    try clear hfz25_2
    try clear hfz29_0
    try clear hfz29_1
    try clear hfz29_2
    obtain ⟨kq, x15_17, rfl, HA, HJ17, HO_4, HO_12, HO_277002, BK260, BK276, HB⟩ := hcut
    cases kq with
    | zero => exact absurd HA.out (by simp [hinterlandlaw02_LandShiftsLeast.j1])
    | succ kj17 =>
     have H := HA.out
     clear HA
     simp only [hinterlandlaw02_LandShiftsLeast.j1] at H
     have HC32 := Aside0.mk H
     clear H
     have hnb33 := NB260_276.out
     have hnc33 := NB276_260.out
     obtain ⟨hcz34_0, hcz34_1, hcz34_2, hfz34_0, hfz34_1, hfz34_2⟩ := cs3_ BK260.out
     go_upto_region 10 with (fail)
     go_cut [100] (fun v100 wc => ∃ (kq : Nat) (x100_31 : Bool), v100 = .bool x100_31 ∧ Aside0 (hinterlandlaw02_LandShiftsLeast.j2 kq l4 t271 x15_17 (wrap64 ((wrap64 (a2 * (wrap64 (a0_0 + 1)))) + a1)) x100_31 a0_0 a0_1 l0_2 t266 t267 t268 = some r) ∧ Aside0 (kq ≤ kj17) ∧ Aside0 (Kd.V (Kd.int .i64) 3 wc w.heap.size (fun k_ => (P4_ k_ ∨ w.heap.size ≤ k_) ∧ some k_ ≠ (v272 : Value).ownBlock ∧ some k_ ≠ ((.slice Ao30 t268.length co30) : Value).ownBlock ∧ k_ ≠ gb260 ∧ k_ ≠ gb276) (.slice A4 l4.length c4) l4) ∧ Aside0 (Kd.R k36 36 wc w.heap.size (fun k_ => (w.heap.size ≤ k_)) v272 t271) ∧ Aside0 (Kd.R (Kd.int .i64) 3 wc w.heap.size (fun k_ => (w.heap.size ≤ k_)) (.slice Ao30 t268.length co30) t268) ∧ Aside0 (wc.heap[gb260]? = some (.cells #[.int .i64 a0_0, .int .i64 a0_1, (.slice A0_2 l0_2.length c0_2)] 24 (0, 0))) ∧ Aside0 (wc.heap[gb276]? = some (.cells #[.int .i64 t266, .int .i64 t267, (.slice Ao30 t268.length co30)] 24 (0, 0))) ∧ Aside0 (Below w.heap.size w wc))
     case first => as_aux_lemma =>
      have H := HC32.out
      clear HC32
      replace H := Option.bind_eq_some_iff.mp H
      obtain ⟨t278, A350, H⟩ := H
      replace H : (if t278 = 0 then (if t266 = a0_0 then (if t267 = a0_1 then (if t274 = (wrap64 (250 * (t271.length : Int))) then (if 0 ≤ (wrap64 ((wrap64 (a2 * (wrap64 (a0_0 + 1)))) + a1)) then (if (wrap64 ((wrap64 (a2 * (wrap64 (a0_0 + 1)))) + a1)) < (t268.length : Int) then (if (wrap64 ((wrap64 (a2 * (wrap64 (a0_0 + 1)))) + a1)) < (l0_2.length : Int) then (hinterlandlaw02_LandShiftsLeast.j2 kj17 l4 t271 x15_17 (wrap64 ((wrap64 (a2 * (wrap64 (a0_0 + 1)))) + a1)) ((rd t268 (wrap64 ((wrap64 (a2 * (wrap64 (a0_0 + 1)))) + a1))) != (wrap64 ((rd l0_2 (wrap64 ((wrap64 (a2 * (wrap64 (a0_0 + 1)))) + a1))) + x15_17))) a0_0 a0_1 l0_2 t266 t267 t268) else (none)) else (none)) else (none)) else (hinterlandlaw02_LandShiftsLeast.j2 kj17 l4 t271 x15_17 (wrap64 ((wrap64 (a2 * (wrap64 (a0_0 + 1)))) + a1)) true a0_0 a0_1 l0_2 t266 t267 t268)) else (hinterlandlaw02_LandShiftsLeast.j2 kj17 l4 t271 x15_17 (wrap64 ((wrap64 (a2 * (wrap64 (a0_0 + 1)))) + a1)) true a0_0 a0_1 l0_2 t266 t267 t268)) else (hinterlandlaw02_LandShiftsLeast.j2 kj17 l4 t271 x15_17 (wrap64 ((wrap64 (a2 * (wrap64 (a0_0 + 1)))) + a1)) true a0_0 a0_1 l0_2 t266 t267 t268)) else (hinterlandlaw02_LandShiftsLeast.j2 kj17 l4 t271 x15_17 (wrap64 ((wrap64 (a2 * (wrap64 (a0_0 + 1)))) + a1)) true a0_0 a0_1 l0_2 t266 t267 t268)) = some r := H
      have A35 := Aside0.mk A350
      clear A350
      refine (Classical.em (t278 = 0)).elim (fun c36 => ?a1_) (fun c36 => ?b1_)
      case' a1_ =>
       rw [if_pos c36] at H
       have c36b0 : (t278 == 0) = true := beq_iff_eq.mpr c36
       have c36b1 : (t278 != 0) = false := bne_eq_false_iff_eq.mpr c36
       clear c36
       (first | rw [c36b0] | (simp only [i64_w, i32_w]; rw [c36b0]) | skip)
       refine (Classical.em (t266 = a0_0)).elim (fun c37 => ?a2_) (fun c37 => ?b2_)
       case' a2_ =>
        rw [if_pos c37] at H
        have c37b0 : (t266 == a0_0) = true := beq_iff_eq.mpr c37
        have c37b1 : (t266 != a0_0) = false := bne_eq_false_iff_eq.mpr c37
        clear c37
        refine (Classical.em (t267 = a0_1)).elim (fun c38 => ?a3_) (fun c38 => ?b3_)
        case' a3_ =>
         rw [if_pos c38] at H
         have c38b0 : (t267 == a0_1) = true := beq_iff_eq.mpr c38
         have c38b1 : (t267 != a0_1) = false := bne_eq_false_iff_eq.mpr c38
         clear c38
         refine (Classical.em (t274 = (wrap64 (250 * (t271.length : Int))))).elim (fun c39 => ?a4_) (fun c39 => ?b4_)
         case a4_ =>
          rw [if_pos c39] at H
          have c39b0 : (t274 == (wrap64 (250 * (t271.length : Int)))) = true := beq_iff_eq.mpr c39
          have c39b1 : (t274 != (wrap64 (250 * (t271.length : Int)))) = false := bne_eq_false_iff_eq.mpr c39
          clear c39
          obtain ⟨ji40, hji40⟩ : ∃ j_ : Int, (wrap64 ((wrap64 (a2 * (wrap64 (a0_0 + 1)))) + a1)) = j_ := ⟨_, rfl⟩
          replace H : (if 0 ≤ (ji40) then (if (ji40) < (t268.length : Int) then (if (ji40) < (l0_2.length : Int) then (hinterlandlaw02_LandShiftsLeast.j2 kj17 l4 t271 x15_17 ji40 ((rd t268 (ji40)) != (wrap64 ((rd l0_2 (ji40)) + x15_17))) a0_0 a0_1 l0_2 t266 t267 t268) else (none)) else (none)) else (none)) = some r := by first | (rw [hji40] at H; exact H) | (simp only [hji40] at H ⊢; exact H)
          (try rw [hji40] at A35)
          have hji40w : (IntKind.i64.wrap ((wrap64 (a2 * (wrap64 (a0_0 + 1)))) + a1)) = ji40 := (i64_w _).trans hji40
          by_cases c41 : 0 ≤ (ji40)
          ·rw [if_pos c41] at H
           have c41b0 : decide (0 ≤ (ji40)) = true := decide_eq_true c41
           clear c41
           by_cases c42 : (ji40) < (t268.length : Int)
           ·rw [if_pos c42] at H
            have c42b0 : decide ((ji40) < (t268.length : Int)) = true := decide_eq_true c42
            clear c42
            by_cases c43 : (ji40) < (l0_2.length : Int)
            ·rw [if_pos c43] at H
             have c43b0 : decide ((ji40) < (l0_2.length : Int)) = true := decide_eq_true c43
             clear c43
             have H' := Aside0.mk H
             clear H
             try go_wp2
             replace HO_4 := Aside0.mk (Kd.V_drew HO_4.out)
             replace HO_12 := Aside0.mk (Kd.R_drew HO_12.out)
             replace HO_277002 := Aside0.mk (Kd.R_drew HO_277002.out)
             replace BK260 := Aside0.mk (blk_drew BK260.out)
             replace BK276 := Aside0.mk (blk_drew BK276.out)
             replace HB := Aside0.mk (below_drew1 HB.out)
             have p279 : 0 ≤ ((ji40) : Int) := of_decide_eq_true tW_
             have q279 : (ji40) < (t268.length : Int) := of_decide_eq_true tW_
             obtain ⟨ad279, e279, hx279_0⟩ := Kd.at_int (Kd.R_reads' HO_277002.out).2.2 (ji40) p279 q279
             cases e279
             replace p279 := eq_true p279
             replace q279 := eq_true q279
             have p280 : 0 ≤ ((ji40) : Int) := of_decide_eq_true tW_
             have q280 : (ji40) < (l0_2.length : Int) := of_decide_eq_true tW_
             obtain ⟨ad280, e280, hx280_0⟩ := Kd.at_int HR0_2.out (ji40) p280 q280
             have hw280_0 := hx280_0
             cases e280
             replace hx280_0 := bc_ HB hx280_0
             replace p280 := eq_true p280
             replace q280 := eq_true q280
             refine start_ (n := 39) (S := fun w' => w'.cell? ⟨gb276, 0, none⟩ = some (.int .i64 t266) ∧ w'.cell? ⟨gb276, 1, none⟩ = some (.int .i64 t267) ∧ w'.cell? ⟨gb276, 2, none⟩ = some (.slice (some ad279) t268.length co30) ∧ w'.cell? ⟨gb260, 0, none⟩ = some (.int .i64 a0_0) ∧ w'.cell? ⟨gb260, 1, none⟩ = some (.int .i64 a0_1) ∧ w'.cell? ⟨gb260, 2, none⟩ = some (.slice (some ad280) l0_2.length c0_2) ∧ w'.cell? (ad279.add ((ji40)).toNat) = some (.int .i64 (rd t268 (ji40))) ∧ w'.cell? (ad280.add ((ji40)).toNat) = some (.int .i64 (rd l0_2 (ji40)))) (ds := []) #[false, false, false, false, false, false, false, false, false, false, false, false, false, false, false, false, false, false, false, false, false, false, false, false, false, false, false, false, false, false, false, false, false, false, false, false, false, false, false] (by kernel_rfl) rfl rfl ⟨(blk_cell BK276.out 0).trans rfl, (blk_cell BK276.out 1).trans rfl, (blk_cell BK276.out 2).trans rfl, (blk_cell BK260.out 0).trans rfl, (blk_cell BK260.out 1).trans rfl, (blk_cell BK260.out 2).trans rfl, hx279_0, ((HB.out.cell (World.block_lt_of_cell? w _ hw280_0)).trans hw280_0)⟩ (fun hHeld => ?_); refine with_tabW hinterlandlaw02_LandShiftsLeast.tab10 hinterlandlaw02_LandShiftsLeast.bits10 (fun HT_ HW_ => ?_)
             generalize wc.drew = w44 at HO_4 HO_12 HO_277002 BK260 BK276 HB hx279_0 hx280_0 hHeld ⊢
             refine take_ (i := 0) (N := some 62) (v := ?_) (a' := ?_) (bA 1 39) rfl rfl (take_ofW HT_.out HW_.out (by kernel_rfl)) (fun _ _ _ h => h) (Or.inl ⟨by rfl, ?_⟩) hHeld ?_ ?_; rotate_left; (rintro w' ⟨s0, s1, s2, s3, s4, s5, s6, s7⟩; go_simp; with_reducible rfl); rotate_left; (simp only [Act.put, sI_, s0_, sS_, i64_w, i32_w]; rfl)
             refine one_ (i := 1) (N := some 63) (bA 2 39) rfl rfl (one_of HT_.out (by kernel_rfl)) (by decide) (fun K hK => ?_)
             refine goes_ Try.func17 (by kernel_rfl) rfl #[.agg #[.int .i64 t266, .int .i64 t267, .slice (some ad279) t268.length co30]] (by rfl) rfl rfl tA_ ?_
             with_reducible refine (land_Validate.calls kj17 t266 t267 _ _ t268 t278 _ ?side1 ?side2 A35.out).mono ?_
             (case side1 => repeat (first | exact (Kd.R_reads' HO_277002.out).2.2 | (with_reducible refine Kd.C_alloc ?_ _) | (with_reducible refine Kd.C_drewN ?_ _) | (with_reducible refine Kd.C_drew ?_)))
             (case side2 => exact (Kd.R_reads' HO_277002.out).2.1)
             rintro e w45 ⟨rfl, hb⟩
             have HS6_ := (hb.cell (World.block_lt_of_cell? _ _ (hHeld.2.2.2.2.2.2.1))).trans (hHeld.2.2.2.2.2.2.1)
             refine ⟨_, rfl, ?_⟩
             replace HO_4 := Aside0.mk (Kd.V_below (by (with_reducible repeat (first | apply Kd.V_alloc | apply Kd.V_drewN | apply Kd.V_drew)); exact HO_4.out) hb)
             replace HO_12 := Aside0.mk (Kd.R_below (dR_ HO_12) hb)
             replace HO_277002 := Aside0.mk (Kd.R_below (dR_ HO_277002) hb)
             replace BK260 := Aside0.mk (blk_below (g := gb260) (o := .cells #[.int .i64 a0_0, .int .i64 a0_1, .slice (some ad280) l0_2.length c0_2] 24 (0, 0)) (dB_ BK260) hb)
             replace BK276 := Aside0.mk (blk_below (g := gb276) (o := .cells #[.int .i64 t266, .int .i64 t267, .slice (some ad279) t268.length co30] 24 (0, 0)) (dB_ BK276) hb)
             replace HB := Aside0.mk (below_step (dL2_ HB GE260 GE276) hb)
             (try clear hb)
             (try clear hb2)
             (try clear hk)
             (try clear hi)
             obtain ⟨Ao46, co46, eo46⟩ := Kd.R_slice HO_12.out
             (first | subst eo46 | (injection eo46 with f1_ f2_ f3_; have f4_ := f1_.symm; have f5_ := f3_.symm; clear f1_ f2_ f3_; subst f4_; subst f5_))
             refine hK.out _ _ ⟨(blk_cell BK276.out 0).trans rfl, (blk_cell BK276.out 1).trans rfl, (blk_cell BK276.out 2).trans rfl, (blk_cell BK260.out 0).trans rfl, (blk_cell BK260.out 1).trans rfl, (blk_cell BK260.out 2).trans rfl, HS6_, ((HB.out.cell (World.block_lt_of_cell? w _ hw280_0)).trans hw280_0)⟩ (fun hHeld => ?_)
             clear hK K
             refine norm_ (a' := ?_) ?_ ?_
             rotate_left
             ·show Act.put _ (some 63) _ = _
              simp only [Act.put, sI_, s0_, sS_, i64_w, i32_w]
              rfl
             refine pure_ (i := 2) (N := some 64) (v := ?_) (a' := ?_) (bA 3 39) rfl rfl (any_of HT_.out (by kernel_rfl)) (fun _ _ _ h => h) (Or.inl ⟨by rfl, ?_⟩) ?_ ?_; rotate_left; (intro w'; go_simp; with_reducible rfl); rotate_left; (simp only [Act.put, sI_, s0_, sS_, i64_w, i32_w]; rfl)
             refine pure_ (i := 3) (N := some 65) (v := ?_) (a' := ?_) (bA 4 39) rfl rfl (any_of HT_.out (by kernel_rfl)) (fun _ _ _ h => h) (Or.inl ⟨by rfl, ?_⟩) ?_ ?_; rotate_left; (intro w'; go_simp; with_reducible rfl); rotate_left; (simp only [Act.put, sI_, s0_, sS_, i64_w, i32_w]; rfl)
             refine pure_ (i := 4) (N := some 66) (v := ?_) (a' := ?_) (bA 5 39) rfl rfl (any_of HT_.out (by kernel_rfl)) (fun _ _ _ h => h) (Or.inl ⟨by rfl, ?_⟩) ?_ ?_; rotate_left; (intro w'; go_simp; with_reducible rfl); rotate_left; (simp only [Act.put, sI_, s0_, sS_, i64_w, i32_w]; rfl)
             refine pure_ (i := 6) (N := some 68) (v := ?_) (a' := ?_) #[true, true, true, true, true, false, true, false, false, false, false, false, false, false, false, false, false, false, false, false, false, false, false, false, false, false, false, false, false, false, false, false, false, false, false, false, false, false, false] rfl rfl (any_of HT_.out (by kernel_rfl)) (fun _ _ _ h => h) (Or.inl ⟨by rfl, ?_⟩) ?_ ?_; rotate_left; (intro w'; go_simp; with_reducible rfl); rotate_left; (simp only [Act.put, sI_, s0_, sS_, i64_w, i32_w]; rfl)
             refine take_ (i := 5) (N := some 67) (v := ?_) (a' := ?_) (bA 7 39) rfl rfl (take_ofW HT_.out HW_.out (by kernel_rfl)) (fun _ _ _ h => h) (Or.inl ⟨by rfl, ?_⟩) hHeld ?_ ?_; rotate_left; (rintro w' ⟨s0, s1, s2, s3, s4, s5, s6, s7⟩; go_simp; with_reducible rfl); rotate_left; (simp only [Act.put, sI_, s0_, sS_, i64_w, i32_w]; rfl)
             refine take_ (i := 7) (N := some 69) (v := ?_) (a' := ?_) (bA 8 39) rfl rfl (take_ofW HT_.out HW_.out (by kernel_rfl)) (fun _ _ _ h => h) (Or.inl ⟨by rfl, ?_⟩) hHeld ?_ ?_; rotate_left; (rintro w' ⟨s0, s1, s2, s3, s4, s5, s6, s7⟩; go_simp; with_reducible rfl); rotate_left; (simp only [Act.put, sI_, s0_, sS_, i64_w, i32_w]; rfl)
             refine pure_ (i := 8) (N := some 70) (v := ?_) (a' := ?_) (bA 9 39) rfl rfl (any_of HT_.out (by kernel_rfl)) (fun _ _ _ h => h) (Or.inl ⟨by rfl, ?_⟩) ?_ ?_; rotate_left; (intro w'; go_simp; with_reducible rfl); rotate_left; (simp only [Act.put, sI_, s0_, sS_, i64_w, i32_w]; rfl)
             refine pure_ (i := 9) (N := some 71) (v := ?_) (a' := ?_) (bA 10 39) rfl rfl (any_of HT_.out (by kernel_rfl)) (fun _ _ _ h => h) (Or.inl ⟨by rfl, ?_⟩) ?_ ?_; rotate_left; (intro w'; go_simp; with_reducible rfl); rotate_left; (simp only [Act.put, sI_, s0_, sS_, i64_w, i32_w]; rfl)
             refine pure_ (i := 10) (N := some 72) (v := ?_) (a' := ?_) (bA 11 39) rfl rfl (any_of HT_.out (by kernel_rfl)) (fun _ _ _ h => h) (Or.inl ⟨by rfl, ?_⟩) ?_ ?_; rotate_left; (intro w'; go_simp; with_reducible rfl); rotate_left; (simp only [Act.put, sI_, s0_, sS_, i64_w, i32_w]; rfl)
             refine pure_ (i := 11) (N := some 73) (v := ?_) (a' := ?_) (bA 12 39) rfl rfl (any_of HT_.out (by kernel_rfl)) (fun _ _ _ h => h) (Or.inl ⟨by rfl, ?_⟩) ?_ ?_; rotate_left; (intro w'; go_simp; with_reducible rfl); rotate_left; (simp only [Act.put, sI_, s0_, sS_, i64_w, i32_w]; rfl)
             refine pure_ (i := 13) (N := some 75) (v := ?_) (a' := ?_) #[true, true, true, true, true, true, true, true, true, true, true, true, false, true, false, false, false, false, false, false, false, false, false, false, false, false, false, false, false, false, false, false, false, false, false, false, false, false, false] rfl rfl (any_of HT_.out (by kernel_rfl)) (fun _ _ _ h => h) (Or.inl ⟨by rfl, ?_⟩) ?_ ?_; rotate_left; (intro w'; go_simp; with_reducible rfl); rotate_left; (simp only [Act.put, sI_, s0_, sS_, i64_w, i32_w]; rfl)
             refine take_ (i := 12) (N := some 74) (v := ?_) (a' := ?_) (bA 14 39) rfl rfl (take_ofW HT_.out HW_.out (by kernel_rfl)) (fun _ _ _ h => h) (Or.inl ⟨by rfl, ?_⟩) hHeld ?_ ?_; rotate_left; (rintro w' ⟨s0, s1, s2, s3, s4, s5, s6, s7⟩; go_simp; with_reducible rfl); rotate_left; (simp only [Act.put, sI_, s0_, sS_, i64_w, i32_w]; rfl)
             refine take_ (i := 14) (N := some 76) (v := ?_) (a' := ?_) (bA 15 39) rfl rfl (take_ofW HT_.out HW_.out (by kernel_rfl)) (fun _ _ _ h => h) (Or.inl ⟨by rfl, ?_⟩) hHeld ?_ ?_; rotate_left; (rintro w' ⟨s0, s1, s2, s3, s4, s5, s6, s7⟩; go_simp; with_reducible rfl); rotate_left; (simp only [Act.put, sI_, s0_, sS_, i64_w, i32_w]; rfl)
             refine pure_ (i := 15) (N := some 77) (v := ?_) (a' := ?_) (bA 16 39) rfl rfl (any_of HT_.out (by kernel_rfl)) (fun _ _ _ h => h) (Or.inl ⟨by rfl, ?_⟩) ?_ ?_; rotate_left; (intro w'; go_simp; with_reducible rfl); rotate_left; (simp only [Act.put, sI_, s0_, sS_, i64_w, i32_w]; rfl)
             refine pure_ (i := 16) (N := some 78) (v := ?_) (a' := ?_) (bA 17 39) rfl rfl (any_of HT_.out (by kernel_rfl)) (fun _ _ _ h => h) (Or.inl ⟨by rfl, ?_⟩) ?_ ?_; rotate_left; (intro w'; go_simp; with_reducible rfl); rotate_left; (simp only [Act.put, sI_, s0_, sS_, i64_w, i32_w]; rfl)
             refine pure_ (i := 17) (N := some 79) (v := ?_) (a' := ?_) (bA 18 39) rfl rfl (any_of HT_.out (by kernel_rfl)) (fun _ _ _ h => h) (Or.inl ⟨by rfl, ?_⟩) ?_ ?_; rotate_left; (intro w'; go_simp; with_reducible rfl); rotate_left; (simp only [Act.put, sI_, s0_, sS_, i64_w, i32_w]; rfl)
             refine pure_ (i := 18) (N := some 80) (v := ?_) (a' := ?_) (bA 19 39) rfl rfl (any_of HT_.out (by kernel_rfl)) (fun _ _ _ h => h) (Or.inl ⟨by rfl, ?_⟩) ?_ ?_; rotate_left; (intro w'; go_simp; with_reducible rfl); rotate_left; (simp only [Act.put, sI_, s0_, sS_, i64_w, i32_w]; rfl)
             refine pure_ (i := 19) (N := some 81) (v := ?_) (a' := ?_) (bA 20 39) rfl rfl (any_of HT_.out (by kernel_rfl)) (fun _ _ _ h => h) (Or.inl ⟨by rfl, ?_⟩) ?_ ?_; rotate_left; (intro w'; go_simp; with_reducible rfl); rotate_left; (simp only [Act.put, sI_, s0_, sS_, i64_w, i32_w]; rfl)
             refine pure_ (i := 20) (N := some 82) (v := ?_) (a' := ?_) (bA 21 39) rfl rfl (any_of HT_.out (by kernel_rfl)) (fun _ _ _ h => h) (Or.inl ⟨by rfl, ?_⟩) ?_ ?_; rotate_left; (intro w'; go_simp; with_reducible rfl); rotate_left; (simp only [Act.put, sI_, s0_, sS_, i64_w, i32_w]; rfl)
             refine pure_ (i := 21) (N := some 83) (v := ?_) (a' := ?_) (bA 22 39) rfl rfl (any_of HT_.out (by kernel_rfl)) (fun _ _ _ h => h) (Or.inl ⟨by rfl, ?_⟩) ?_ ?_; rotate_left; (intro w'; go_simp; with_reducible rfl); rotate_left; (simp only [Act.put, sI_, s0_, sS_, i64_w, i32_w]; rfl)
             refine pure_ (i := 22) (N := some 84) (v := ?_) (a' := ?_) (bA 23 39) rfl rfl (any_of HT_.out (by kernel_rfl)) (fun _ _ _ h => h) (Or.inl ⟨by rfl, ?_⟩) ?_ ?_; rotate_left; (intro w'; go_simp; with_reducible rfl); rotate_left; (simp only [Act.put, sI_, s0_, sS_, i64_w, i32_w]; rfl)
             refine pure_ (i := 23) (N := some 85) (v := ?_) (a' := ?_) (bA 24 39) rfl rfl (any_of HT_.out (by kernel_rfl)) (fun _ _ _ h => h) (Or.inl ⟨by rfl, ?_⟩) ?_ ?_; rotate_left; (intro w'; go_simp; with_reducible rfl); rotate_left; (simp only [Act.put, sI_, s0_, sS_, i64_w, i32_w]; rfl)
             refine pure_ (i := 24) (N := some 86) (v := ?_) (a' := ?_) (bA 25 39) rfl rfl (any_of HT_.out (by kernel_rfl)) (fun _ _ _ h => h) (Or.inl ⟨by rfl, ?_⟩) ?_ ?_; rotate_left; (intro w'; go_simp; with_reducible rfl); rotate_left; (simp only [Act.put, sI_, s0_, sS_, i64_w, i32_w]; rfl)
             refine pure_ (i := 25) (N := some 87) (v := ?_) (a' := ?_) (bA 26 39) rfl rfl (any_of HT_.out (by kernel_rfl)) (fun _ _ _ h => h) (Or.inl ⟨by rfl, ?_⟩) ?_ ?_; rotate_left; (intro w'; go_simp; with_reducible rfl); rotate_left; (simp only [Act.put, sI_, s0_, sS_, i64_w, i32_w]; rfl)
             refine pure_ (i := 27) (N := some 89) (v := ?_) (a' := ?_) #[true, true, true, true, true, true, true, true, true, true, true, true, true, true, true, true, true, true, true, true, true, true, true, true, true, true, false, true, false, false, false, false, false, false, false, false, false, false, false] rfl rfl (any_of HT_.out (by kernel_rfl)) (fun _ _ _ h => h) (Or.inl ⟨by rfl, ?_⟩) ?_ ?_; rotate_left; (intro w'; go_simp; with_reducible rfl); rotate_left; (simp only [Act.put, sI_, s0_, sS_, i64_w, i32_w]; rfl)
             refine pure_ (i := 30) (N := some 92) (v := ?_) (a' := ?_) #[true, true, true, true, true, true, true, true, true, true, true, true, true, true, true, true, true, true, true, true, true, true, true, true, true, true, false, true, false, false, true, false, false, false, false, false, false, false, false] rfl rfl (any_of HT_.out (by kernel_rfl)) (fun _ _ _ h => h) (Or.inl ⟨by rfl, ?_⟩) ?_ ?_; rotate_left; (intro w'; go_simp; with_reducible rfl); rotate_left; (simp only [Act.put, sI_, s0_, sS_, i64_w, i32_w]; rfl)
             refine pure_ (i := 32) (N := some 94) (v := ?_) (a' := ?_) #[true, true, true, true, true, true, true, true, true, true, true, true, true, true, true, true, true, true, true, true, true, true, true, true, true, true, false, true, false, false, true, false, true, false, false, false, false, false, false] rfl rfl (any_of HT_.out (by kernel_rfl)) (fun _ _ _ h => h) (Or.inl ⟨by rfl, ?_⟩) ?_ ?_; rotate_left; (intro w'; go_simp; with_reducible rfl); rotate_left; (simp only [Act.put, sI_, s0_, sS_, i64_w, i32_w]; rfl)
             refine pure_ (i := 35) (N := some 97) (v := ?_) (a' := ?_) #[true, true, true, true, true, true, true, true, true, true, true, true, true, true, true, true, true, true, true, true, true, true, true, true, true, true, false, true, false, false, true, false, true, false, false, true, false, false, false] rfl rfl (any_of HT_.out (by kernel_rfl)) (fun _ _ _ h => h) (Or.inl ⟨by rfl, ?_⟩) ?_ ?_; rotate_left; (intro w'; go_simp; with_reducible rfl); rotate_left; (simp only [Act.put, sI_, s0_, sS_, i64_w, i32_w]; rfl)
             refine take_ (i := 26) (N := some 88) (v := ?_) (a' := ?_) #[true, true, true, true, true, true, true, true, true, true, true, true, true, true, true, true, true, true, true, true, true, true, true, true, true, true, true, true, false, false, true, false, true, false, false, true, false, false, false] rfl rfl (take_ofW HT_.out HW_.out (by kernel_rfl)) (fun _ _ _ h => h) (Or.inl ⟨by rfl, ?_⟩) hHeld ?_ ?_; rotate_left; (rintro w' ⟨s0, s1, s2, s3, s4, s5, s6, s7⟩; go_simp; with_reducible rfl); rotate_left; (simp only [Act.put, sI_, s0_, sS_, i64_w, i32_w]; rfl)
             refine pure_ (i := 28) (N := some 90) (v := ?_) (a' := ?_) #[true, true, true, true, true, true, true, true, true, true, true, true, true, true, true, true, true, true, true, true, true, true, true, true, true, true, true, true, true, false, true, false, true, false, false, true, false, false, false] rfl rfl (any_of HT_.out (by kernel_rfl)) (fun _ _ _ h => h) (Or.inl ⟨by rfl, ?_⟩) ?_ ?_; rotate_left; (intro w'; go_simp; with_reducible rfl); rotate_left; (simp only [Act.put, sI_, s0_, sS_, i64_w, i32_w]; rfl)
             refine take_ (i := 29) (N := some 91) (v := ?_) (a' := ?_) #[true, true, true, true, true, true, true, true, true, true, true, true, true, true, true, true, true, true, true, true, true, true, true, true, true, true, true, true, true, true, true, false, true, false, false, true, false, false, false] rfl rfl (take_ofW HT_.out HW_.out (by kernel_rfl)) (fun _ _ _ h => h) (Or.inl ⟨by rfl, ?_⟩) hHeld ?_ ?_; rotate_left; (rintro w' ⟨s0, s1, s2, s3, s4, s5, s6, s7⟩; go_simp; with_reducible rfl); rotate_left; (simp only [Act.put, sI_, s0_, sS_, i64_w, i32_w]; rfl)
             refine take_ (i := 31) (N := some 93) (v := ?_) (a' := ?_) #[true, true, true, true, true, true, true, true, true, true, true, true, true, true, true, true, true, true, true, true, true, true, true, true, true, true, true, true, true, true, true, true, true, false, false, true, false, false, false] rfl rfl (take_ofW HT_.out HW_.out (by kernel_rfl)) (fun _ _ _ h => h) (Or.inl ⟨by rfl, ?_⟩) hHeld ?_ ?_; rotate_left; (rintro w' ⟨s0, s1, s2, s3, s4, s5, s6, s7⟩; go_simp; with_reducible rfl); rotate_left; (simp only [Act.put, sI_, s0_, sS_, i64_w, i32_w]; rfl)
             refine pure_ (i := 33) (N := some 95) (v := ?_) (a' := ?_) #[true, true, true, true, true, true, true, true, true, true, true, true, true, true, true, true, true, true, true, true, true, true, true, true, true, true, true, true, true, true, true, true, true, true, false, true, false, false, false] rfl rfl (any_of HT_.out (by kernel_rfl)) (fun _ _ _ h => h) (Or.inl ⟨by rfl, ?_⟩) ?_ ?_; rotate_left; (intro w'; go_simp; with_reducible rfl); rotate_left; (simp only [Act.put, sI_, s0_, sS_, i64_w, i32_w]; rfl)
             refine take_ (i := 34) (N := some 96) (v := ?_) (a' := ?_) (bA 36 39) rfl rfl (take_ofW HT_.out HW_.out (by kernel_rfl)) (fun _ _ _ h => h) (Or.inl ⟨by rfl, ?_⟩) hHeld ?_ ?_; rotate_left; (rintro w' ⟨s0, s1, s2, s3, s4, s5, s6, s7⟩; go_simp; with_reducible rfl); rotate_left; (simp only [Act.put, sI_, s0_, sS_, i64_w, i32_w]; rfl)
             refine pure_ (i := 36) (N := some 98) (v := ?_) (a' := ?_) (bA 37 39) rfl rfl (any_of HT_.out (by kernel_rfl)) (fun _ _ _ h => h) (Or.inl ⟨by rfl, ?_⟩) ?_ ?_; rotate_left; (intro w'; go_simp; with_reducible rfl); rotate_left; (simp only [Act.put, sI_, s0_, sS_, i64_w, i32_w]; rfl)
             refine pure_ (i := 37) (N := some 99) (v := ?_) (a' := ?_) (bA 38 39) rfl rfl (any_of HT_.out (by kernel_rfl)) (fun _ _ _ h => h) (Or.inl ⟨by rfl, ?_⟩) ?_ ?_; rotate_left; (intro w'; go_simp; with_reducible rfl); rotate_left; (simp only [Act.put, sI_, s0_, sS_, i64_w, i32_w]; rfl)
             refine pure_ (i := 38) (N := some 100) (v := ?_) (a' := ?_) (bA 39 39) rfl rfl (any_of HT_.out (by kernel_rfl)) (fun _ _ _ h => h) (Or.inl ⟨by rfl, ?_⟩) ?_ ?_; rotate_left; (intro w'; go_simp; with_reducible rfl); rotate_left; (simp only [Act.put, sI_, s0_, sS_, i64_w, i32_w]; rfl)
             refine done_ (done_of HT_.out (by kernel_rfl)) ?_
             try go_wp2
             go_meet
             case rel => exact ⟨_, (((rd t268 (ji40)) != (wrap64 ((rd l0_2 (ji40)) + x15_17)))), (by first | rfl | (simp; done) | (simp only [← hji40]; rw [shl_one_small _ (by assumption) (by omega)]; done) | (simp only [← hji40] <;> (first | rfl | simp)) | (simp [*]; done) | (refine congrArg (Value.int .i64) ?_; unfold wrap64; omega) | (simp only [shl_one_small _ (by assumption) (by omega)]; done) | (simp [*]; rw [shl_one_small _ (by assumption) (by omega)]; done)), (by rw [hji40]; exact H'), ⟨by have := HJ17.out; first | omega | exact Nat.le_refl _⟩, ⟨by (with_reducible repeat (first | apply Kd.V_alloc | apply Kd.V_drewN | apply Kd.V_drew)); exact HO_4.out⟩, ⟨dR_ HO_12⟩, ⟨dR_ HO_277002⟩, ⟨dB_ BK260⟩, ⟨dB_ BK276⟩, ⟨dL2_ HB GE260 GE276⟩⟩
            ·rw [if_neg c43] at H
             exact absurd H (by simp)
           ·rw [if_neg c42] at H
            exact absurd H (by simp)
          ·rw [if_neg c41] at H
           exact absurd H (by simp)
         case' b4_ =>
          rw [if_neg c39] at H
          have c39b0 : (t274 == (wrap64 (250 * (t271.length : Int)))) = false := beq_eq_false_iff_ne.mpr c39
          have c39b1 : (t274 != (wrap64 (250 * (t271.length : Int)))) = true := bne_iff_ne.mpr c39
          have H' := Aside0.mk H
          clear H
        case' b3_ =>
         rw [if_neg c38] at H
         have c38b0 : (t267 == a0_1) = false := beq_eq_false_iff_ne.mpr c38
         have c38b1 : (t267 != a0_1) = true := bne_iff_ne.mpr c38
         have H' := Aside0.mk H
         clear H
       case' b2_ =>
        rw [if_neg c37] at H
        have c37b0 : (t266 == a0_0) = false := beq_eq_false_iff_ne.mpr c37
        have c37b1 : (t266 != a0_0) = true := bne_iff_ne.mpr c37
        have H' := Aside0.mk H
        clear H
      case' b1_ =>
       rw [if_neg c36] at H
       have c36b0 : (t278 == 0) = false := beq_eq_false_iff_ne.mpr c36
       have c36b1 : (t278 != 0) = true := bne_iff_ne.mpr c36
       (first | rw [c36b0] | (simp only [i64_w, i32_w]; rw [c36b0]) | skip)
       have H' := Aside0.mk H
       clear H
      all_goals (
       try go_wp2
       replace HO_4 := Aside0.mk (Kd.V_drew HO_4.out)
       replace HO_12 := Aside0.mk (Kd.R_drew HO_12.out)
       replace HO_277002 := Aside0.mk (Kd.R_drew HO_277002.out)
       replace BK260 := Aside0.mk (blk_drew BK260.out)
       replace BK276 := Aside0.mk (blk_drew BK276.out)
       replace HB := Aside0.mk (below_drew1 HB.out)
       first
       | (refine start_ (n := 39) (S := fun w' => w'.cell? ⟨gb276, 0, none⟩ = some (.int .i64 t266) ∧ w'.cell? ⟨gb276, 1, none⟩ = some (.int .i64 t267) ∧ w'.cell? ⟨gb276, 2, none⟩ = some (.slice Ao30 t268.length co30) ∧ w'.cell? ⟨gb260, 0, none⟩ = some (.int .i64 a0_0) ∧ w'.cell? ⟨gb260, 1, none⟩ = some (.int .i64 a0_1) ∧ w'.cell? ⟨gb260, 2, none⟩ = some (.slice A0_2 l0_2.length c0_2)) (ds := []) #[false, false, false, false, false, false, false, false, false, false, false, false, false, false, false, false, false, false, false, false, false, false, false, false, false, false, false, false, false, false, false, false, false, false, false, false, false, false, false] (by kernel_rfl) rfl rfl ⟨(blk_cell BK276.out 0).trans rfl, (blk_cell BK276.out 1).trans rfl, (blk_cell BK276.out 2).trans rfl, (blk_cell BK260.out 0).trans rfl, (blk_cell BK260.out 1).trans rfl, (blk_cell BK260.out 2).trans rfl⟩ (fun hHeld => ?_); refine with_tabW hinterlandlaw02_LandShiftsLeast.tab10 hinterlandlaw02_LandShiftsLeast.bits10 (fun HT_ HW_ => ?_)
          generalize wc.drew = wz1 at HO_4 HO_12 HO_277002 BK260 BK276 HB hHeld ⊢)
       | (refine start_ (n := 39) (S := fun w' => w'.cell? ⟨gb276, 0, none⟩ = some (.int .i64 t266) ∧ w'.cell? ⟨gb276, 1, none⟩ = some (.int .i64 t267) ∧ w'.cell? ⟨gb276, 2, none⟩ = some (.slice Ao30 t268.length co30)) (ds := []) #[false, false, false, false, false, false, false, false, false, false, false, false, false, false, false, false, false, false, false, false, false, false, false, false, false, false, false, false, false, false, false, false, false, false, false, false, false, false, false] (by kernel_rfl) rfl rfl ⟨(blk_cell BK276.out 0).trans rfl, (blk_cell BK276.out 1).trans rfl, (blk_cell BK276.out 2).trans rfl⟩ (fun hHeld => ?_); refine with_tabW hinterlandlaw02_LandShiftsLeast.tab10 hinterlandlaw02_LandShiftsLeast.bits10 (fun HT_ HW_ => ?_)
          generalize wc.drew = wz1 at HO_4 HO_12 HO_277002 BK260 BK276 HB hHeld ⊢)
       first
       | (refine take_ (i := 0) (N := some 62) (v := ?_) (a' := ?_) (bA 1 39) rfl rfl (take_ofW HT_.out HW_.out (by kernel_rfl)) (fun _ _ _ h => h) (Or.inl ⟨by rfl, ?_⟩) hHeld ?_ ?_; rotate_left; (rintro w' ⟨sz1, sz2, sz3, sz4, sz5, sz6⟩; go_simp; with_reducible rfl); rotate_left; (simp only [Act.put, sI_, s0_, sS_, i64_w, i32_w]; rfl))
       | (refine take_ (i := 0) (N := some 62) (v := ?_) (a' := ?_) (bA 1 39) rfl rfl (take_ofW HT_.out HW_.out (by kernel_rfl)) (fun _ _ _ h => h) (Or.inl ⟨by rfl, ?_⟩) hHeld ?_ ?_; rotate_left; (rintro w' ⟨sz1, sz2, sz3⟩; go_simp; with_reducible rfl); rotate_left; (simp only [Act.put, sI_, s0_, sS_, i64_w, i32_w]; rfl))
       first
       | (refine one_ (i := 1) (N := some 63) (bA 2 39) rfl rfl (one_of HT_.out (by kernel_rfl)) (by decide) (fun K hK => ?_)
          refine goes_ Try.func17 (by kernel_rfl) rfl #[.agg #[.int .i64 t266, .int .i64 t267, .slice Ao30 t268.length co30]] (by rfl) rfl rfl tA_ ?_
          with_reducible refine (land_Validate.calls kj17 t266 t267 _ _ t268 t278 _ ?side1 ?side2 A35.out).mono ?_
          (case side1 => repeat (first | exact (Kd.R_reads' HO_277002.out).2.2 | (with_reducible refine Kd.C_alloc ?_ _) | (with_reducible refine Kd.C_drewN ?_ _) | (with_reducible refine Kd.C_drew ?_)))
          (case side2 => exact (Kd.R_reads' HO_277002.out).2.1)
          rintro e wz2 ⟨rfl, hb⟩
          refine ⟨_, rfl, ?_⟩
          replace HO_4 := Aside0.mk (Kd.V_below (by (with_reducible repeat (first | apply Kd.V_alloc | apply Kd.V_drewN | apply Kd.V_drew)); exact HO_4.out) hb)
          replace HO_12 := Aside0.mk (Kd.R_below (dR_ HO_12) hb)
          replace HO_277002 := Aside0.mk (Kd.R_below (dR_ HO_277002) hb)
          replace BK260 := Aside0.mk (blk_below (g := gb260) (o := .cells #[.int .i64 a0_0, .int .i64 a0_1, .slice A0_2 l0_2.length c0_2] 24 (0, 0)) (dB_ BK260) hb)
          replace BK276 := Aside0.mk (blk_below (g := gb276) (o := .cells #[.int .i64 t266, .int .i64 t267, .slice Ao30 t268.length co30] 24 (0, 0)) (dB_ BK276) hb)
          replace HB := Aside0.mk (below_step (dL2_ HB GE260 GE276) hb)
          (try clear hb)
          (try clear hb2)
          (try clear hk)
          (try clear hi)
          obtain ⟨Aoz1, coz1, eoz1⟩ := Kd.R_slice HO_12.out
          (first | subst eoz1 | (injection eoz1 with f1_ f2_ f3_; have fz1_ := f1_.symm; have fz2_ := f3_.symm; clear f1_ f2_ f3_; subst fz1_; subst fz2_))
          refine hK.out _ _ ⟨(blk_cell BK276.out 0).trans rfl, (blk_cell BK276.out 1).trans rfl, (blk_cell BK276.out 2).trans rfl, (blk_cell BK260.out 0).trans rfl, (blk_cell BK260.out 1).trans rfl, (blk_cell BK260.out 2).trans rfl⟩ (fun hHeld => ?_)
          clear hK K
          refine norm_ (a' := ?_) ?_ ?_
          rotate_left
          ·show Act.put _ (some 63) _ = _
           simp only [Act.put, sI_, s0_, sS_, i64_w, i32_w]
           rfl)
       | (refine one_ (i := 1) (N := some 63) (bA 2 39) rfl rfl (one_of HT_.out (by kernel_rfl)) (by decide) (fun K hK => ?_)
          refine goes_ Try.func17 (by kernel_rfl) rfl #[.agg #[.int .i64 t266, .int .i64 t267, .slice Ao30 t268.length co30]] (by rfl) rfl rfl tA_ ?_
          with_reducible refine (land_Validate.calls kj17 t266 t267 _ _ t268 t278 _ ?side1 ?side2 A35.out).mono ?_
          (case side1 => repeat (first | exact (Kd.R_reads' HO_277002.out).2.2 | (with_reducible refine Kd.C_alloc ?_ _) | (with_reducible refine Kd.C_drewN ?_ _) | (with_reducible refine Kd.C_drew ?_)))
          (case side2 => exact (Kd.R_reads' HO_277002.out).2.1)
          rintro e wz2 ⟨rfl, hb⟩
          refine ⟨_, rfl, ?_⟩
          replace HO_4 := Aside0.mk (Kd.V_below (by (with_reducible repeat (first | apply Kd.V_alloc | apply Kd.V_drewN | apply Kd.V_drew)); exact HO_4.out) hb)
          replace HO_12 := Aside0.mk (Kd.R_below (dR_ HO_12) hb)
          replace HO_277002 := Aside0.mk (Kd.R_below (dR_ HO_277002) hb)
          replace BK260 := Aside0.mk (blk_below (g := gb260) (o := .cells #[.int .i64 a0_0, .int .i64 a0_1, .slice A0_2 l0_2.length c0_2] 24 (0, 0)) (dB_ BK260) hb)
          replace BK276 := Aside0.mk (blk_below (g := gb276) (o := .cells #[.int .i64 t266, .int .i64 t267, .slice Ao30 t268.length co30] 24 (0, 0)) (dB_ BK276) hb)
          replace HB := Aside0.mk (below_step (dL2_ HB GE260 GE276) hb)
          (try clear hb)
          (try clear hb2)
          (try clear hk)
          (try clear hi)
          refine hK.out _ _ ⟨(blk_cell BK276.out 0).trans rfl, (blk_cell BK276.out 1).trans rfl, (blk_cell BK276.out 2).trans rfl, (blk_cell BK260.out 0).trans rfl, (blk_cell BK260.out 1).trans rfl, (blk_cell BK260.out 2).trans rfl⟩ (fun hHeld => ?_)
          clear hK K
          refine norm_ (a' := ?_) ?_ ?_
          rotate_left
          ·show Act.put _ (some 63) _ = _
           simp only [Act.put, sI_, s0_, sS_, i64_w, i32_w]
           rfl)
       | (refine one_ (i := 1) (N := some 63) (bA 2 39) rfl rfl (one_of HT_.out (by kernel_rfl)) (by decide) (fun K hK => ?_)
          refine goes_ Try.func17 (by kernel_rfl) rfl #[.agg #[.int .i64 t266, .int .i64 t267, .slice Ao30 t268.length co30]] (by rfl) rfl rfl tA_ ?_
          with_reducible refine (land_Validate.calls kj17 t266 t267 _ _ t268 t278 _ ?side1 ?side2 A35.out).mono ?_
          (case side1 => repeat (first | exact (Kd.R_reads' HO_277002.out).2.2 | (with_reducible refine Kd.C_alloc ?_ _) | (with_reducible refine Kd.C_drewN ?_ _) | (with_reducible refine Kd.C_drew ?_)))
          (case side2 => exact (Kd.R_reads' HO_277002.out).2.1)
          rintro e wz2 ⟨rfl, hb⟩
          refine ⟨_, rfl, ?_⟩
          replace HO_4 := Aside0.mk (Kd.V_below (by (with_reducible repeat (first | apply Kd.V_alloc | apply Kd.V_drewN | apply Kd.V_drew)); exact HO_4.out) hb)
          replace HO_12 := Aside0.mk (Kd.R_below (dR_ HO_12) hb)
          replace HO_277002 := Aside0.mk (Kd.R_below (dR_ HO_277002) hb)
          replace BK260 := Aside0.mk (blk_below (g := gb260) (o := .cells #[.int .i64 a0_0, .int .i64 a0_1, .slice A0_2 l0_2.length c0_2] 24 (0, 0)) (dB_ BK260) hb)
          replace BK276 := Aside0.mk (blk_below (g := gb276) (o := .cells #[.int .i64 t266, .int .i64 t267, .slice Ao30 t268.length co30] 24 (0, 0)) (dB_ BK276) hb)
          replace HB := Aside0.mk (below_step (dL2_ HB GE260 GE276) hb)
          (try clear hb)
          (try clear hb2)
          (try clear hk)
          (try clear hi)
          refine hK.out _ _ ⟨(blk_cell BK276.out 0).trans rfl, (blk_cell BK276.out 1).trans rfl, (blk_cell BK276.out 2).trans rfl⟩ (fun hHeld => ?_)
          clear hK K
          refine norm_ (a' := ?_) ?_ ?_
          rotate_left
          ·show Act.put _ (some 63) _ = _
           simp only [Act.put, sI_, s0_, sS_, i64_w, i32_w]
           rfl)
       refine pure_ (i := 2) (N := some 64) (v := ?_) (a' := ?_) (bA 3 39) rfl rfl (any_of HT_.out (by kernel_rfl)) (fun _ _ _ h => h) (Or.inl ⟨by rfl, ?_⟩) ?_ ?_; rotate_left; (intro w'; go_simp; with_reducible rfl); rotate_left; (simp only [Act.put, sI_, s0_, sS_, i64_w, i32_w]; rfl)
       refine pure_ (i := 3) (N := some 65) (v := ?_) (a' := ?_) (bA 4 39) rfl rfl (any_of HT_.out (by kernel_rfl)) (fun _ _ _ h => h) (Or.inl ⟨by rfl, ?_⟩) ?_ ?_; rotate_left; (intro w'; go_simp; with_reducible rfl); rotate_left; (simp only [Act.put, sI_, s0_, sS_, i64_w, i32_w]; rfl)
       first
       | (refine pure_ (i := 4) (N := some 66) (v := ?_) (a' := ?_) (bA 5 39) rfl rfl (any_of HT_.out (by kernel_rfl)) (fun _ _ _ h => h) (Or.inl ⟨by rfl, ?_⟩) ?_ ?_; rotate_left; (intro w'; go_simp; with_reducible rfl); rotate_left; (simp only [Act.put, sI_, s0_, sS_, i64_w, i32_w]; rfl))
       | (refine pure_ (i := 4) (N := some 66) (v := undef) (a' := ?_) (bA 5 39) rfl rfl (any_of HT_.out (by kernel_rfl)) (fun _ _ _ h => h) (Or.inr ⟨by rfl, rfl⟩) ?_ ?_; rotate_left; (simp only [Act.put, sI_, s0_, sS_, i64_w, i32_w]; rfl))
       first
       | (refine pure_ (i := 6) (N := some 68) (v := ?_) (a' := ?_) #[true, true, true, true, true, false, true, false, false, false, false, false, false, false, false, false, false, false, false, false, false, false, false, false, false, false, false, false, false, false, false, false, false, false, false, false, false, false, false] rfl rfl (any_of HT_.out (by kernel_rfl)) (fun _ _ _ h => h) (Or.inl ⟨by rfl, ?_⟩) ?_ ?_; rotate_left; (intro w'; go_simp; with_reducible rfl); rotate_left; (simp only [Act.put, sI_, s0_, sS_, i64_w, i32_w]; rfl))
       | (refine pure_ (i := 6) (N := some 68) (v := undef) (a' := ?_) #[true, true, true, true, true, false, true, false, false, false, false, false, false, false, false, false, false, false, false, false, false, false, false, false, false, false, false, false, false, false, false, false, false, false, false, false, false, false, false] rfl rfl (any_of HT_.out (by kernel_rfl)) (fun _ _ _ h => h) (Or.inr ⟨by rfl, rfl⟩) ?_ ?_; rotate_left; (simp only [Act.put, sI_, s0_, sS_, i64_w, i32_w]; rfl))
       first
       | (refine take_ (i := 5) (N := some 67) (v := ?_) (a' := ?_) (bA 7 39) rfl rfl (take_ofW HT_.out HW_.out (by kernel_rfl)) (fun _ _ _ h => h) (Or.inl ⟨by rfl, ?_⟩) hHeld ?_ ?_; rotate_left; (rintro w' ⟨sz1, sz2, sz3, sz4, sz5, sz6⟩; go_simp; with_reducible rfl); rotate_left; (simp only [Act.put, sI_, s0_, sS_, i64_w, i32_w]; rfl))
       | (refine pure_ (i := 5) (N := some 67) (v := undef) (a' := ?_) (bA 7 39) rfl rfl (any_of HT_.out (by kernel_rfl)) (fun _ _ _ h => h) (Or.inr ⟨by rfl, rfl⟩) ?_ ?_; rotate_left; (simp only [Act.put, sI_, s0_, sS_, i64_w, i32_w]; rfl))
       first
       | (refine take_ (i := 7) (N := some 69) (v := ?_) (a' := ?_) (bA 8 39) rfl rfl (take_ofW HT_.out HW_.out (by kernel_rfl)) (fun _ _ _ h => h) (Or.inl ⟨by rfl, ?_⟩) hHeld ?_ ?_; rotate_left; (rintro w' ⟨sz1, sz2, sz3, sz4, sz5, sz6⟩; go_simp; with_reducible rfl); rotate_left; (simp only [Act.put, sI_, s0_, sS_, i64_w, i32_w]; rfl))
       | (refine pure_ (i := 7) (N := some 69) (v := undef) (a' := ?_) (bA 8 39) rfl rfl (any_of HT_.out (by kernel_rfl)) (fun _ _ _ h => h) (Or.inr ⟨by rfl, rfl⟩) ?_ ?_; rotate_left; (simp only [Act.put, sI_, s0_, sS_, i64_w, i32_w]; rfl))
       first
       | (refine pure_ (i := 8) (N := some 70) (v := ?_) (a' := ?_) (bA 9 39) rfl rfl (any_of HT_.out (by kernel_rfl)) (fun _ _ _ h => h) (Or.inl ⟨by rfl, ?_⟩) ?_ ?_; rotate_left; (intro w'; go_simp; with_reducible rfl); rotate_left; (simp only [Act.put, sI_, s0_, sS_, i64_w, i32_w]; rfl))
       | (refine pure_ (i := 8) (N := some 70) (v := undef) (a' := ?_) (bA 9 39) rfl rfl (any_of HT_.out (by kernel_rfl)) (fun _ _ _ h => h) (Or.inr ⟨by rfl, rfl⟩) ?_ ?_; rotate_left; (simp only [Act.put, sI_, s0_, sS_, i64_w, i32_w]; rfl))
       refine pure_ (i := 9) (N := some 71) (v := ?_) (a' := ?_) (bA 10 39) rfl rfl (any_of HT_.out (by kernel_rfl)) (fun _ _ _ h => h) (Or.inl ⟨by rfl, ?_⟩) ?_ ?_; rotate_left; (intro w'; go_simp; with_reducible rfl); rotate_left; (simp only [Act.put, sI_, s0_, sS_, i64_w, i32_w]; rfl)
       refine pure_ (i := 10) (N := some 72) (v := ?_) (a' := ?_) (bA 11 39) rfl rfl (any_of HT_.out (by kernel_rfl)) (fun _ _ _ h => h) (Or.inl ⟨by rfl, ?_⟩) ?_ ?_; rotate_left; (intro w'; go_simp; with_reducible rfl); rotate_left; (simp only [Act.put, sI_, s0_, sS_, i64_w, i32_w]; rfl)
       first
       | (refine pure_ (i := 11) (N := some 73) (v := ?_) (a' := ?_) (bA 12 39) rfl rfl (any_of HT_.out (by kernel_rfl)) (fun _ _ _ h => h) (Or.inl ⟨by rfl, ?_⟩) ?_ ?_; rotate_left; (intro w'; go_simp; with_reducible rfl); rotate_left; (simp only [Act.put, sI_, s0_, sS_, i64_w, i32_w]; rfl))
       | (refine pure_ (i := 11) (N := some 73) (v := undef) (a' := ?_) (bA 12 39) rfl rfl (any_of HT_.out (by kernel_rfl)) (fun _ _ _ h => h) (Or.inr ⟨by rfl, rfl⟩) ?_ ?_; rotate_left; (simp only [Act.put, sI_, s0_, sS_, i64_w, i32_w]; rfl))
       first
       | (refine pure_ (i := 13) (N := some 75) (v := ?_) (a' := ?_) #[true, true, true, true, true, true, true, true, true, true, true, true, false, true, false, false, false, false, false, false, false, false, false, false, false, false, false, false, false, false, false, false, false, false, false, false, false, false, false] rfl rfl (any_of HT_.out (by kernel_rfl)) (fun _ _ _ h => h) (Or.inl ⟨by rfl, ?_⟩) ?_ ?_; rotate_left; (intro w'; go_simp; with_reducible rfl); rotate_left; (simp only [Act.put, sI_, s0_, sS_, i64_w, i32_w]; rfl))
       | (refine pure_ (i := 13) (N := some 75) (v := undef) (a' := ?_) #[true, true, true, true, true, true, true, true, true, true, true, true, false, true, false, false, false, false, false, false, false, false, false, false, false, false, false, false, false, false, false, false, false, false, false, false, false, false, false] rfl rfl (any_of HT_.out (by kernel_rfl)) (fun _ _ _ h => h) (Or.inr ⟨by rfl, rfl⟩) ?_ ?_; rotate_left; (simp only [Act.put, sI_, s0_, sS_, i64_w, i32_w]; rfl))
       first
       | (refine take_ (i := 12) (N := some 74) (v := ?_) (a' := ?_) (bA 14 39) rfl rfl (take_ofW HT_.out HW_.out (by kernel_rfl)) (fun _ _ _ h => h) (Or.inl ⟨by rfl, ?_⟩) hHeld ?_ ?_; rotate_left; (rintro w' ⟨sz1, sz2, sz3, sz4, sz5, sz6⟩; go_simp; with_reducible rfl); rotate_left; (simp only [Act.put, sI_, s0_, sS_, i64_w, i32_w]; rfl))
       | (refine pure_ (i := 12) (N := some 74) (v := undef) (a' := ?_) (bA 14 39) rfl rfl (any_of HT_.out (by kernel_rfl)) (fun _ _ _ h => h) (Or.inr ⟨by rfl, rfl⟩) ?_ ?_; rotate_left; (simp only [Act.put, sI_, s0_, sS_, i64_w, i32_w]; rfl))
       first
       | (refine take_ (i := 14) (N := some 76) (v := ?_) (a' := ?_) (bA 15 39) rfl rfl (take_ofW HT_.out HW_.out (by kernel_rfl)) (fun _ _ _ h => h) (Or.inl ⟨by rfl, ?_⟩) hHeld ?_ ?_; rotate_left; (rintro w' ⟨sz1, sz2, sz3, sz4, sz5, sz6⟩; go_simp; with_reducible rfl); rotate_left; (simp only [Act.put, sI_, s0_, sS_, i64_w, i32_w]; rfl))
       | (refine pure_ (i := 14) (N := some 76) (v := undef) (a' := ?_) (bA 15 39) rfl rfl (any_of HT_.out (by kernel_rfl)) (fun _ _ _ h => h) (Or.inr ⟨by rfl, rfl⟩) ?_ ?_; rotate_left; (simp only [Act.put, sI_, s0_, sS_, i64_w, i32_w]; rfl))
       first
       | (refine pure_ (i := 15) (N := some 77) (v := ?_) (a' := ?_) (bA 16 39) rfl rfl (any_of HT_.out (by kernel_rfl)) (fun _ _ _ h => h) (Or.inl ⟨by rfl, ?_⟩) ?_ ?_; rotate_left; (intro w'; go_simp; with_reducible rfl); rotate_left; (simp only [Act.put, sI_, s0_, sS_, i64_w, i32_w]; rfl))
       | (refine pure_ (i := 15) (N := some 77) (v := undef) (a' := ?_) (bA 16 39) rfl rfl (any_of HT_.out (by kernel_rfl)) (fun _ _ _ h => h) (Or.inr ⟨by rfl, rfl⟩) ?_ ?_; rotate_left; (simp only [Act.put, sI_, s0_, sS_, i64_w, i32_w]; rfl))
       refine pure_ (i := 16) (N := some 78) (v := ?_) (a' := ?_) (bA 17 39) rfl rfl (any_of HT_.out (by kernel_rfl)) (fun _ _ _ h => h) (Or.inl ⟨by rfl, ?_⟩) ?_ ?_; rotate_left; (intro w'; go_simp; with_reducible rfl); rotate_left; (simp only [Act.put, sI_, s0_, sS_, i64_w, i32_w]; rfl)
       refine pure_ (i := 17) (N := some 79) (v := ?_) (a' := ?_) (bA 18 39) rfl rfl (any_of HT_.out (by kernel_rfl)) (fun _ _ _ h => h) (Or.inl ⟨by rfl, ?_⟩) ?_ ?_; rotate_left; (intro w'; go_simp; with_reducible rfl); rotate_left; (simp only [Act.put, sI_, s0_, sS_, i64_w, i32_w]; rfl)
       first
       | (refine pure_ (i := 18) (N := some 80) (v := ?_) (a' := ?_) (bA 19 39) rfl rfl (any_of HT_.out (by kernel_rfl)) (fun _ _ _ h => h) (Or.inl ⟨by rfl, ?_⟩) ?_ ?_; rotate_left; (intro w'; go_simp; with_reducible rfl); rotate_left; (simp only [Act.put, sI_, s0_, sS_, i64_w, i32_w]; rfl))
       | (refine pure_ (i := 18) (N := some 80) (v := undef) (a' := ?_) (bA 19 39) rfl rfl (any_of HT_.out (by kernel_rfl)) (fun _ _ _ h => h) (Or.inr ⟨by rfl, rfl⟩) ?_ ?_; rotate_left; (simp only [Act.put, sI_, s0_, sS_, i64_w, i32_w]; rfl))
       first
       | (refine pure_ (i := 19) (N := some 81) (v := ?_) (a' := ?_) (bA 20 39) rfl rfl (any_of HT_.out (by kernel_rfl)) (fun _ _ _ h => h) (Or.inl ⟨by rfl, ?_⟩) ?_ ?_; rotate_left; (intro w'; go_simp; with_reducible rfl); rotate_left; (simp only [Act.put, sI_, s0_, sS_, i64_w, i32_w]; rfl))
       | (refine pure_ (i := 19) (N := some 81) (v := undef) (a' := ?_) (bA 20 39) rfl rfl (any_of HT_.out (by kernel_rfl)) (fun _ _ _ h => h) (Or.inr ⟨by rfl, rfl⟩) ?_ ?_; rotate_left; (simp only [Act.put, sI_, s0_, sS_, i64_w, i32_w]; rfl))
       first
       | (refine pure_ (i := 20) (N := some 82) (v := ?_) (a' := ?_) (bA 21 39) rfl rfl (any_of HT_.out (by kernel_rfl)) (fun _ _ _ h => h) (Or.inl ⟨by rfl, ?_⟩) ?_ ?_; rotate_left; (intro w'; go_simp; with_reducible rfl); rotate_left; (simp only [Act.put, sI_, s0_, sS_, i64_w, i32_w]; rfl))
       | (refine pure_ (i := 20) (N := some 82) (v := undef) (a' := ?_) (bA 21 39) rfl rfl (any_of HT_.out (by kernel_rfl)) (fun _ _ _ h => h) (Or.inr ⟨by rfl, rfl⟩) ?_ ?_; rotate_left; (simp only [Act.put, sI_, s0_, sS_, i64_w, i32_w]; rfl))
       first
       | (refine pure_ (i := 21) (N := some 83) (v := ?_) (a' := ?_) (bA 22 39) rfl rfl (any_of HT_.out (by kernel_rfl)) (fun _ _ _ h => h) (Or.inl ⟨by rfl, ?_⟩) ?_ ?_; rotate_left; (intro w'; go_simp; with_reducible rfl); rotate_left; (simp only [Act.put, sI_, s0_, sS_, i64_w, i32_w]; rfl))
       | (refine pure_ (i := 21) (N := some 83) (v := undef) (a' := ?_) (bA 22 39) rfl rfl (any_of HT_.out (by kernel_rfl)) (fun _ _ _ h => h) (Or.inr ⟨by rfl, rfl⟩) ?_ ?_; rotate_left; (simp only [Act.put, sI_, s0_, sS_, i64_w, i32_w]; rfl))
       first
       | (refine pure_ (i := 22) (N := some 84) (v := ?_) (a' := ?_) (bA 23 39) rfl rfl (any_of HT_.out (by kernel_rfl)) (fun _ _ _ h => h) (Or.inl ⟨by rfl, ?_⟩) ?_ ?_; rotate_left; (intro w'; go_simp; with_reducible rfl); rotate_left; (simp only [Act.put, sI_, s0_, sS_, i64_w, i32_w]; rfl))
       | (refine pure_ (i := 22) (N := some 84) (v := undef) (a' := ?_) (bA 23 39) rfl rfl (any_of HT_.out (by kernel_rfl)) (fun _ _ _ h => h) (Or.inr ⟨by rfl, rfl⟩) ?_ ?_; rotate_left; (simp only [Act.put, sI_, s0_, sS_, i64_w, i32_w]; rfl))
       refine pure_ (i := 23) (N := some 85) (v := ?_) (a' := ?_) (bA 24 39) rfl rfl (any_of HT_.out (by kernel_rfl)) (fun _ _ _ h => h) (Or.inl ⟨by rfl, ?_⟩) ?_ ?_; rotate_left; (intro w'; go_simp; with_reducible rfl); rotate_left; (simp only [Act.put, sI_, s0_, sS_, i64_w, i32_w]; rfl)
       refine pure_ (i := 24) (N := some 86) (v := ?_) (a' := ?_) (bA 25 39) rfl rfl (any_of HT_.out (by kernel_rfl)) (fun _ _ _ h => h) (Or.inl ⟨by rfl, ?_⟩) ?_ ?_; rotate_left; (intro w'; go_simp; with_reducible rfl); rotate_left; (simp only [Act.put, sI_, s0_, sS_, i64_w, i32_w]; rfl)
       refine pure_ (i := 25) (N := some 87) (v := undef) (a' := ?_) (bA 26 39) rfl rfl (any_of HT_.out (by kernel_rfl)) (fun _ _ _ h => h) (Or.inr ⟨by rfl, rfl⟩) ?_ ?_; rotate_left; (simp only [Act.put, sI_, s0_, sS_, i64_w, i32_w]; rfl)
       refine pure_ (i := 26) (N := some 88) (v := undef) (a' := ?_) (bA 27 39) rfl rfl (any_of HT_.out (by kernel_rfl)) (fun _ _ _ h => h) (Or.inr ⟨by rfl, rfl⟩) ?_ ?_; rotate_left; (simp only [Act.put, sI_, s0_, sS_, i64_w, i32_w]; rfl)
       refine pure_ (i := 27) (N := some 89) (v := undef) (a' := ?_) (bA 28 39) rfl rfl (any_of HT_.out (by kernel_rfl)) (fun _ _ _ h => h) (Or.inr ⟨by rfl, rfl⟩) ?_ ?_; rotate_left; (simp only [Act.put, sI_, s0_, sS_, i64_w, i32_w]; rfl)
       refine pure_ (i := 28) (N := some 90) (v := undef) (a' := ?_) (bA 29 39) rfl rfl (any_of HT_.out (by kernel_rfl)) (fun _ _ _ h => h) (Or.inr ⟨by rfl, rfl⟩) ?_ ?_; rotate_left; (simp only [Act.put, sI_, s0_, sS_, i64_w, i32_w]; rfl)
       refine pure_ (i := 29) (N := some 91) (v := undef) (a' := ?_) (bA 30 39) rfl rfl (any_of HT_.out (by kernel_rfl)) (fun _ _ _ h => h) (Or.inr ⟨by rfl, rfl⟩) ?_ ?_; rotate_left; (simp only [Act.put, sI_, s0_, sS_, i64_w, i32_w]; rfl)
       refine pure_ (i := 30) (N := some 92) (v := undef) (a' := ?_) (bA 31 39) rfl rfl (any_of HT_.out (by kernel_rfl)) (fun _ _ _ h => h) (Or.inr ⟨by rfl, rfl⟩) ?_ ?_; rotate_left; (simp only [Act.put, sI_, s0_, sS_, i64_w, i32_w]; rfl)
       refine pure_ (i := 31) (N := some 93) (v := undef) (a' := ?_) (bA 32 39) rfl rfl (any_of HT_.out (by kernel_rfl)) (fun _ _ _ h => h) (Or.inr ⟨by rfl, rfl⟩) ?_ ?_; rotate_left; (simp only [Act.put, sI_, s0_, sS_, i64_w, i32_w]; rfl)
       refine pure_ (i := 32) (N := some 94) (v := undef) (a' := ?_) (bA 33 39) rfl rfl (any_of HT_.out (by kernel_rfl)) (fun _ _ _ h => h) (Or.inr ⟨by rfl, rfl⟩) ?_ ?_; rotate_left; (simp only [Act.put, sI_, s0_, sS_, i64_w, i32_w]; rfl)
       refine pure_ (i := 33) (N := some 95) (v := undef) (a' := ?_) (bA 34 39) rfl rfl (any_of HT_.out (by kernel_rfl)) (fun _ _ _ h => h) (Or.inr ⟨by rfl, rfl⟩) ?_ ?_; rotate_left; (simp only [Act.put, sI_, s0_, sS_, i64_w, i32_w]; rfl)
       refine pure_ (i := 34) (N := some 96) (v := undef) (a' := ?_) (bA 35 39) rfl rfl (any_of HT_.out (by kernel_rfl)) (fun _ _ _ h => h) (Or.inr ⟨by rfl, rfl⟩) ?_ ?_; rotate_left; (simp only [Act.put, sI_, s0_, sS_, i64_w, i32_w]; rfl)
       refine pure_ (i := 35) (N := some 97) (v := undef) (a' := ?_) (bA 36 39) rfl rfl (any_of HT_.out (by kernel_rfl)) (fun _ _ _ h => h) (Or.inr ⟨by rfl, rfl⟩) ?_ ?_; rotate_left; (simp only [Act.put, sI_, s0_, sS_, i64_w, i32_w]; rfl)
       refine pure_ (i := 36) (N := some 98) (v := undef) (a' := ?_) (bA 37 39) rfl rfl (any_of HT_.out (by kernel_rfl)) (fun _ _ _ h => h) (Or.inr ⟨by rfl, rfl⟩) ?_ ?_; rotate_left; (simp only [Act.put, sI_, s0_, sS_, i64_w, i32_w]; rfl)
       refine pure_ (i := 37) (N := some 99) (v := undef) (a' := ?_) (bA 38 39) rfl rfl (any_of HT_.out (by kernel_rfl)) (fun _ _ _ h => h) (Or.inr ⟨by rfl, rfl⟩) ?_ ?_; rotate_left; (simp only [Act.put, sI_, s0_, sS_, i64_w, i32_w]; rfl)
       refine pure_ (i := 38) (N := some 100) (v := ?_) (a' := ?_) (bA 39 39) rfl rfl (any_of HT_.out (by kernel_rfl)) (fun _ _ _ h => h) (Or.inl ⟨by rfl, ?_⟩) ?_ ?_; rotate_left; (intro w'; go_simp; with_reducible rfl); rotate_left; (simp only [Act.put, sI_, s0_, sS_, i64_w, i32_w]; rfl)
       refine done_ (done_of HT_.out (by kernel_rfl)) ?_
       try go_wp2
       go_meet
       case rel => exact ⟨_, (true), tS_, H', ⟨by have := HJ17.out; first | omega | exact Nat.le_refl _⟩, ⟨by (with_reducible repeat (first | apply Kd.V_alloc | apply Kd.V_drewN | apply Kd.V_drew)); exact HO_4.out⟩, ⟨dR_ HO_12⟩, ⟨dR_ HO_277002⟩, ⟨dB_ BK260⟩, ⟨dB_ BK276⟩, ⟨dL2_ HB GE260 GE276⟩⟩)
     case rest => as_aux_lemma =>
      clear HC32
      try clear c17
      try clear c36
      try clear c37
      obtain ⟨kq, x100_31, rfl, HA, HJ31, HO_4, HO_12, HO_277002, BK260, BK276, HB⟩ := hcut
      cases kq with
      | zero => exact absurd HA.out (by simp [hinterlandlaw02_LandShiftsLeast.j2])
      | succ kj31 =>
       have H := HA.out
       clear HA
       simp only [hinterlandlaw02_LandShiftsLeast.j2] at H
       by_cases c56 : x100_31 = true
       ·subst c56
        have H1 : (some false) = some r := by rw [if_pos rfl] at H; exact H
        clear H
        have H := H1
        clear H1
        obtain rfl := Option.some.inj H
        go_wp2
        go_ret
        exact ⟨tE_, dL2_ HB GE260 GE276⟩
       ·replace c56 := Bool.eq_false_iff.mpr c56
        subst c56
        have H1 : ((land_Validate.f kj31 a0_0 a0_1 l4).bind fun t281 => (if t281 = 0 then (if 0 ≤ (wrap64 ((wrap64 (a2 * (wrap64 (a0_0 + 1)))) + a1)) then (if (wrap64 ((wrap64 (a2 * (wrap64 (a0_0 + 1)))) + a1)) < (l4.length : Int) then (if (wrap64 ((wrap64 (a2 * (wrap64 (a0_0 + 1)))) + a1)) < (t268.length : Int) then (hinterlandlaw02_LandShiftsLeast.j3 kj31 l4 t271 x15_17 (decide ((wrap64 ((wrap64 ((rd l4 (wrap64 ((wrap64 (a2 * (wrap64 (a0_0 + 1)))) + a1))) - (rd t268 (wrap64 ((wrap64 (a2 * (wrap64 (a0_0 + 1)))) + a1))))) * x15_17)) ≥ 0)) a0_0 a0_1 l0_2 t266 t267 t268) else (none)) else (none)) else (none)) else (hinterlandlaw02_LandShiftsLeast.j3 kj31 l4 t271 x15_17 false a0_0 a0_1 l0_2 t266 t267 t268))) = some r := by rw [if_neg (show ¬ (false = true) by decide)] at H; exact H
        clear H
        have H := H1
        clear H1
        have HC57 := Aside0.mk H
        clear H
        go_upto_region 12 with (fail)
        go_cut [17] (fun v17 wc => ∃ (kq : Nat) (x17_56 : Bool), v17 = .bool x17_56 ∧ Aside0 (hinterlandlaw02_LandShiftsLeast.j3 kq l4 t271 x15_17 x17_56 a0_0 a0_1 l0_2 t266 t267 t268 = some r) ∧ Aside0 (kq ≤ kj31) ∧ Aside0 (Kd.V (Kd.int .i64) 3 wc w.heap.size (fun k_ => (P4_ k_ ∨ w.heap.size ≤ k_) ∧ some k_ ≠ (v272 : Value).ownBlock ∧ some k_ ≠ ((.slice Ao30 t268.length co30) : Value).ownBlock ∧ k_ ≠ gb260 ∧ k_ ≠ gb276) (.slice A4 l4.length c4) l4) ∧ Aside0 (Kd.R k36 36 wc w.heap.size (fun k_ => (w.heap.size ≤ k_)) v272 t271) ∧ Aside0 (Kd.R (Kd.int .i64) 3 wc w.heap.size (fun k_ => (w.heap.size ≤ k_)) (.slice Ao30 t268.length co30) t268) ∧ Aside0 (wc.heap[gb260]? = some (.cells #[.int .i64 a0_0, .int .i64 a0_1, (.slice A0_2 l0_2.length c0_2)] 24 (0, 0))) ∧ Aside0 (wc.heap[gb276]? = some (.cells #[.int .i64 t266, .int .i64 t267, (.slice Ao30 t268.length co30)] 24 (0, 0))) ∧ Aside0 (Below w.heap.size w wc))
        case first => as_aux_lemma =>
         have H := HC57.out
         clear HC57
         replace H := Option.bind_eq_some_iff.mp H
         obtain ⟨t281, A580, H⟩ := H
         replace H : (if t281 = 0 then (if 0 ≤ (wrap64 ((wrap64 (a2 * (wrap64 (a0_0 + 1)))) + a1)) then (if (wrap64 ((wrap64 (a2 * (wrap64 (a0_0 + 1)))) + a1)) < (l4.length : Int) then (if (wrap64 ((wrap64 (a2 * (wrap64 (a0_0 + 1)))) + a1)) < (t268.length : Int) then (hinterlandlaw02_LandShiftsLeast.j3 kj31 l4 t271 x15_17 (decide ((wrap64 ((wrap64 ((rd l4 (wrap64 ((wrap64 (a2 * (wrap64 (a0_0 + 1)))) + a1))) - (rd t268 (wrap64 ((wrap64 (a2 * (wrap64 (a0_0 + 1)))) + a1))))) * x15_17)) ≥ 0)) a0_0 a0_1 l0_2 t266 t267 t268) else (none)) else (none)) else (none)) else (hinterlandlaw02_LandShiftsLeast.j3 kj31 l4 t271 x15_17 false a0_0 a0_1 l0_2 t266 t267 t268)) = some r := H
         have A58 := Aside0.mk A580
         clear A580
         by_cases c59 : t281 = 0
         ·rw [if_pos c59] at H
          have c59b0 : (t281 == 0) = true := beq_iff_eq.mpr c59
          have c59b1 : (t281 != 0) = false := bne_eq_false_iff_eq.mpr c59
          clear c59
          (first | rw [c59b0] | (simp only [i64_w, i32_w]; rw [c59b0]) | skip)
          obtain ⟨ji60, hji60⟩ : ∃ j_ : Int, (wrap64 ((wrap64 (a2 * (wrap64 (a0_0 + 1)))) + a1)) = j_ := ⟨_, rfl⟩
          replace H : (if 0 ≤ (ji60) then (if (ji60) < (l4.length : Int) then (if (ji60) < (t268.length : Int) then (hinterlandlaw02_LandShiftsLeast.j3 kj31 l4 t271 x15_17 (decide ((wrap64 ((wrap64 ((rd l4 (ji60)) - (rd t268 (ji60)))) * x15_17)) ≥ 0)) a0_0 a0_1 l0_2 t266 t267 t268) else (none)) else (none)) else (none)) = some r := by first | (rw [hji60] at H; exact H) | (simp only [hji60] at H ⊢; exact H)
          (try rw [hji60] at A58)
          have hji60w : (IntKind.i64.wrap ((wrap64 (a2 * (wrap64 (a0_0 + 1)))) + a1)) = ji60 := (i64_w _).trans hji60
          by_cases c61 : 0 ≤ (ji60)
          ·rw [if_pos c61] at H
           have c61b0 : decide (0 ≤ (ji60)) = true := decide_eq_true c61
           clear c61
           by_cases c62 : (ji60) < (l4.length : Int)
           ·rw [if_pos c62] at H
            have c62b0 : decide ((ji60) < (l4.length : Int)) = true := decide_eq_true c62
            clear c62
            by_cases c63 : (ji60) < (t268.length : Int)
            ·rw [if_pos c63] at H
             have c63b0 : decide ((ji60) < (t268.length : Int)) = true := decide_eq_true c63
             clear c63
             have H' := Aside0.mk H
             clear H
             try go_wp2
             replace HO_4 := Aside0.mk (Kd.V_drew HO_4.out)
             replace HO_12 := Aside0.mk (Kd.R_drew HO_12.out)
             replace HO_277002 := Aside0.mk (Kd.R_drew HO_277002.out)
             replace BK260 := Aside0.mk (blk_drew BK260.out)
             replace BK276 := Aside0.mk (blk_drew BK276.out)
             replace HB := Aside0.mk (below_drew1 HB.out)
             have p282 : 0 ≤ ((ji60) : Int) := of_decide_eq_true tW_
             have q282 : (ji60) < (l4.length : Int) := of_decide_eq_true tW_
             obtain ⟨ad282, e282, hx282_0⟩ := Kd.at_int (Kd.V_reads' HO_4.out).2.2 (ji60) p282 q282
             cases e282
             replace p282 := eq_true p282
             replace q282 := eq_true q282
             have p283 : 0 ≤ ((ji60) : Int) := of_decide_eq_true tW_
             have q283 : (ji60) < (t268.length : Int) := of_decide_eq_true tW_
             obtain ⟨ad283, e283, hx283_0⟩ := Kd.at_int (Kd.R_reads' HO_277002.out).2.2 (ji60) p283 q283
             cases e283
             replace p283 := eq_true p283
             replace q283 := eq_true q283
             refine start_ (n := 24) (S := fun w' => w'.cell? ⟨gb260, 0, none⟩ = some (.int .i64 a0_0) ∧ w'.cell? ⟨gb260, 1, none⟩ = some (.int .i64 a0_1) ∧ w'.cell? ⟨gb260, 2, none⟩ = some (.slice A0_2 l0_2.length c0_2) ∧ w'.cell? ⟨gb276, 0, none⟩ = some (.int .i64 t266) ∧ w'.cell? ⟨gb276, 1, none⟩ = some (.int .i64 t267) ∧ w'.cell? ⟨gb276, 2, none⟩ = some (.slice (some ad283) t268.length co30) ∧ w'.cell? (ad282.add ((ji60)).toNat) = some (.int .i64 (rd l4 (ji60))) ∧ w'.cell? (ad283.add ((ji60)).toNat) = some (.int .i64 (rd t268 (ji60)))) (ds := []) #[false, false, false, false, false, false, false, false, false, false, false, false, false, false, false, false, false, false, false, false, false, false, false, false] (by kernel_rfl) rfl rfl ⟨(blk_cell BK260.out 0).trans rfl, (blk_cell BK260.out 1).trans rfl, (blk_cell BK260.out 2).trans rfl, (blk_cell BK276.out 0).trans rfl, (blk_cell BK276.out 1).trans rfl, (blk_cell BK276.out 2).trans rfl, hx282_0, hx283_0⟩ (fun hHeld => ?_); refine with_tabW hinterlandlaw02_LandShiftsLeast.tab12 hinterlandlaw02_LandShiftsLeast.bits12 (fun HT_ HW_ => ?_)
             generalize wc.drew = w64 at HO_4 HO_12 HO_277002 BK260 BK276 HB hx282_0 hx283_0 hHeld ⊢
             refine pure_ (i := 0) (N := some 101) (v := ?_) (a' := ?_) (bA 1 24) rfl rfl (any_of HT_.out (by kernel_rfl)) (fun _ _ _ h => h) (Or.inl ⟨by rfl, ?_⟩) ?_ ?_; rotate_left; (intro w'; go_simp; with_reducible rfl); rotate_left; (simp only [Act.put, sI_, s0_, sS_, i64_w, i32_w]; rfl)
             refine pure_ (i := 2) (N := some 103) (v := ?_) (a' := ?_) #[true, false, true, false, false, false, false, false, false, false, false, false, false, false, false, false, false, false, false, false, false, false, false, false] rfl rfl (any_of HT_.out (by kernel_rfl)) (fun _ _ _ h => h) (Or.inl ⟨by rfl, ?_⟩) ?_ ?_; rotate_left; (intro w'; go_simp; with_reducible rfl); rotate_left; (simp only [Act.put, sI_, s0_, sS_, i64_w, i32_w]; rfl)
             refine pure_ (i := 4) (N := some 105) (v := ?_) (a' := ?_) #[true, false, true, false, true, false, false, false, false, false, false, false, false, false, false, false, false, false, false, false, false, false, false, false] rfl rfl (any_of HT_.out (by kernel_rfl)) (fun _ _ _ h => h) (Or.inl ⟨by rfl, ?_⟩) ?_ ?_; rotate_left; (intro w'; go_simp; with_reducible rfl); rotate_left; (simp only [Act.put, sI_, s0_, sS_, i64_w, i32_w]; rfl)
             refine take_ (i := 1) (N := some 102) (v := ?_) (a' := ?_) #[true, true, true, false, true, false, false, false, false, false, false, false, false, false, false, false, false, false, false, false, false, false, false, false] rfl rfl (take_ofW HT_.out HW_.out (by kernel_rfl)) (fun _ _ _ h => h) (Or.inl ⟨by rfl, ?_⟩) hHeld ?_ ?_; rotate_left; (rintro w' ⟨s0, s1, s2, s3, s4, s5, s6, s7⟩; go_simp; with_reducible rfl); rotate_left; (simp only [Act.put, sI_, s0_, sS_, i64_w, i32_w]; rfl)
             refine take_ (i := 3) (N := some 104) (v := ?_) (a' := ?_) (bA 5 24) rfl rfl (take_ofW HT_.out HW_.out (by kernel_rfl)) (fun _ _ _ h => h) (Or.inl ⟨by rfl, ?_⟩) hHeld ?_ ?_; rotate_left; (rintro w' ⟨s0, s1, s2, s3, s4, s5, s6, s7⟩; go_simp; with_reducible rfl); rotate_left; (simp only [Act.put, sI_, s0_, sS_, i64_w, i32_w]; rfl)
             refine pure_ (i := 5) (N := some 106) (v := ?_) (a' := ?_) (bA 6 24) rfl rfl (any_of HT_.out (by kernel_rfl)) (fun _ _ _ h => h) (Or.inl ⟨by rfl, ?_⟩) ?_ ?_; rotate_left; (intro w'; go_simp; with_reducible rfl); rotate_left; (simp only [Act.put, sI_, s0_, sS_, i64_w, i32_w]; rfl)
             refine one_ (i := 6) (N := some 107) (bA 7 24) rfl rfl (one_of HT_.out (by kernel_rfl)) (by decide) (fun K hK => ?_)
             refine goes_ Try.func17 (by kernel_rfl) rfl #[.agg #[.int .i64 a0_0, .int .i64 a0_1, .slice (some ad282) l4.length c4]] (by rfl) rfl rfl tA_ ?_
             with_reducible refine (land_Validate.calls kj31 a0_0 a0_1 _ _ l4 t281 _ ?side1 ?side2 A58.out).mono ?_
             (case side1 => repeat (first | exact (Kd.V_reads' HO_4.out).2.2 | (with_reducible refine Kd.C_alloc ?_ _) | (with_reducible refine Kd.C_drewN ?_ _) | (with_reducible refine Kd.C_drew ?_)))
             (case side2 => exact (Kd.V_reads' HO_4.out).2.1)
             rintro e w65 ⟨rfl, hb⟩
             have HS6_ := (hb.cell (World.block_lt_of_cell? _ _ (hHeld.2.2.2.2.2.2.1))).trans (hHeld.2.2.2.2.2.2.1)
             have HS7_ := (hb.cell (World.block_lt_of_cell? _ _ (hHeld.2.2.2.2.2.2.2))).trans (hHeld.2.2.2.2.2.2.2)
             refine ⟨_, rfl, ?_⟩
             replace HO_4 := Aside0.mk (Kd.V_below (by (with_reducible repeat (first | apply Kd.V_alloc | apply Kd.V_drewN | apply Kd.V_drew)); exact HO_4.out) hb)
             replace HO_12 := Aside0.mk (Kd.R_below (dR_ HO_12) hb)
             replace HO_277002 := Aside0.mk (Kd.R_below (dR_ HO_277002) hb)
             replace BK260 := Aside0.mk (blk_below (g := gb260) (o := .cells #[.int .i64 a0_0, .int .i64 a0_1, .slice A0_2 l0_2.length c0_2] 24 (0, 0)) (dB_ BK260) hb)
             replace BK276 := Aside0.mk (blk_below (g := gb276) (o := .cells #[.int .i64 t266, .int .i64 t267, .slice (some ad283) t268.length co30] 24 (0, 0)) (dB_ BK276) hb)
             replace HB := Aside0.mk (below_step (dL2_ HB GE260 GE276) hb)
             (try clear hb)
             (try clear hb2)
             (try clear hk)
             (try clear hi)
             refine hK.out _ _ ⟨(blk_cell BK260.out 0).trans rfl, (blk_cell BK260.out 1).trans rfl, (blk_cell BK260.out 2).trans rfl, (blk_cell BK276.out 0).trans rfl, (blk_cell BK276.out 1).trans rfl, (blk_cell BK276.out 2).trans rfl, HS6_, HS7_⟩ (fun hHeld => ?_)
             clear hK K
             refine norm_ (a' := ?_) ?_ ?_
             rotate_left
             ·show Act.put _ (some 107) _ = _
              simp only [Act.put, sI_, s0_, sS_, i64_w, i32_w]
              rfl
             refine pure_ (i := 7) (N := some 108) (v := ?_) (a' := ?_) (bA 8 24) rfl rfl (any_of HT_.out (by kernel_rfl)) (fun _ _ _ h => h) (Or.inl ⟨by rfl, ?_⟩) ?_ ?_; rotate_left; (intro w'; go_simp; with_reducible rfl); rotate_left; (simp only [Act.put, sI_, s0_, sS_, i64_w, i32_w]; rfl)
             refine pure_ (i := 8) (N := some 109) (v := ?_) (a' := ?_) (bA 9 24) rfl rfl (any_of HT_.out (by kernel_rfl)) (fun _ _ _ h => h) (Or.inl ⟨by rfl, ?_⟩) ?_ ?_; rotate_left; (intro w'; go_simp; with_reducible rfl); rotate_left; (simp only [Act.put, sI_, s0_, sS_, i64_w, i32_w]; rfl)
             refine pure_ (i := 9) (N := some 110) (v := ?_) (a' := ?_) (bA 10 24) rfl rfl (any_of HT_.out (by kernel_rfl)) (fun _ _ _ h => h) (Or.inl ⟨by rfl, ?_⟩) ?_ ?_; rotate_left; (intro w'; go_simp; with_reducible rfl); rotate_left; (simp only [Act.put, sI_, s0_, sS_, i64_w, i32_w]; rfl)
             refine pure_ (i := 10) (N := some 111) (v := ?_) (a' := ?_) (bA 11 24) rfl rfl (any_of HT_.out (by kernel_rfl)) (fun _ _ _ h => h) (Or.inl ⟨by rfl, ?_⟩) ?_ ?_; rotate_left; (intro w'; go_simp; with_reducible rfl); rotate_left; (simp only [Act.put, sI_, s0_, sS_, i64_w, i32_w]; rfl)
             refine pure_ (i := 11) (N := some 112) (v := ?_) (a' := ?_) (bA 12 24) rfl rfl (any_of HT_.out (by kernel_rfl)) (fun _ _ _ h => h) (Or.inl ⟨by rfl, ?_⟩) ?_ ?_; rotate_left; (intro w'; go_simp; with_reducible rfl); rotate_left; (simp only [Act.put, sI_, s0_, sS_, i64_w, i32_w]; rfl)
             refine pure_ (i := 13) (N := some 114) (v := ?_) (a' := ?_) #[true, true, true, true, true, true, true, true, true, true, true, true, false, true, false, false, false, false, false, false, false, false, false, false] rfl rfl (any_of HT_.out (by kernel_rfl)) (fun _ _ _ h => h) (Or.inl ⟨by rfl, ?_⟩) ?_ ?_; rotate_left; (intro w'; go_simp; with_reducible rfl); rotate_left; (simp only [Act.put, sI_, s0_, sS_, i64_w, i32_w]; rfl)
             refine pure_ (i := 15) (N := some 116) (v := ?_) (a' := ?_) #[true, true, true, true, true, true, true, true, true, true, true, true, false, true, false, true, false, false, false, false, false, false, false, false] rfl rfl (any_of HT_.out (by kernel_rfl)) (fun _ _ _ h => h) (Or.inl ⟨by rfl, ?_⟩) ?_ ?_; rotate_left; (intro w'; go_simp; with_reducible rfl); rotate_left; (simp only [Act.put, sI_, s0_, sS_, i64_w, i32_w]; rfl)
             refine pure_ (i := 19) (N := some 120) (v := ?_) (a' := ?_) #[true, true, true, true, true, true, true, true, true, true, true, true, false, true, false, true, false, false, false, true, false, false, false, false] rfl rfl (any_of HT_.out (by kernel_rfl)) (fun _ _ _ h => h) (Or.inl ⟨by rfl, ?_⟩) ?_ ?_; rotate_left; (intro w'; go_simp; with_reducible rfl); rotate_left; (simp only [Act.put, sI_, s0_, sS_, i64_w, i32_w]; rfl)
             refine take_ (i := 12) (N := some 113) (v := ?_) (a' := ?_) #[true, true, true, true, true, true, true, true, true, true, true, true, true, true, false, true, false, false, false, true, false, false, false, false] rfl rfl (take_ofW HT_.out HW_.out (by kernel_rfl)) (fun _ _ _ h => h) (Or.inl ⟨by rfl, ?_⟩) hHeld ?_ ?_; rotate_left; (rintro w' ⟨s0, s1, s2, s3, s4, s5, s6, s7⟩; go_simp; with_reducible rfl); rotate_left; (simp only [Act.put, sI_, s0_, sS_, i64_w, i32_w]; rfl)
             refine take_ (i := 14) (N := some 115) (v := ?_) (a' := ?_) #[true, true, true, true, true, true, true, true, true, true, true, true, true, true, true, true, false, false, false, true, false, false, false, false] rfl rfl (take_ofW HT_.out HW_.out (by kernel_rfl)) (fun _ _ _ h => h) (Or.inl ⟨by rfl, ?_⟩) hHeld ?_ ?_; rotate_left; (rintro w' ⟨s0, s1, s2, s3, s4, s5, s6, s7⟩; go_simp; with_reducible rfl); rotate_left; (simp only [Act.put, sI_, s0_, sS_, i64_w, i32_w]; rfl)
             refine pure_ (i := 16) (N := some 117) (v := ?_) (a' := ?_) #[true, true, true, true, true, true, true, true, true, true, true, true, true, true, true, true, true, false, false, true, false, false, false, false] rfl rfl (any_of HT_.out (by kernel_rfl)) (fun _ _ _ h => h) (Or.inl ⟨by rfl, ?_⟩) ?_ ?_; rotate_left; (intro w'; go_simp; with_reducible rfl); rotate_left; (simp only [Act.put, sI_, s0_, sS_, i64_w, i32_w]; rfl)
             refine take_ (i := 17) (N := some 118) (v := ?_) (a' := ?_) #[true, true, true, true, true, true, true, true, true, true, true, true, true, true, true, true, true, true, false, true, false, false, false, false] rfl rfl (take_ofW HT_.out HW_.out (by kernel_rfl)) (fun _ _ _ h => h) (Or.inl ⟨by rfl, ?_⟩) hHeld ?_ ?_; rotate_left; (rintro w' ⟨s0, s1, s2, s3, s4, s5, s6, s7⟩; go_simp; with_reducible rfl); rotate_left; (simp only [Act.put, sI_, s0_, sS_, i64_w, i32_w]; rfl)
             refine pure_ (i := 18) (N := some 119) (v := ?_) (a' := ?_) (bA 20 24) rfl rfl (any_of HT_.out (by kernel_rfl)) (fun _ _ _ h => h) (Or.inl ⟨by rfl, ?_⟩) ?_ ?_; rotate_left; (intro w'; go_simp; with_reducible rfl); rotate_left; (simp only [Act.put, sI_, s0_, sS_, i64_w, i32_w]; rfl)
             refine pure_ (i := 20) (N := some 121) (v := ?_) (a' := ?_) (bA 21 24) rfl rfl (any_of HT_.out (by kernel_rfl)) (fun _ _ _ h => h) (Or.inl ⟨by rfl, ?_⟩) ?_ ?_; rotate_left; (intro w'; go_simp; with_reducible rfl); rotate_left; (simp only [Act.put, sI_, s0_, sS_, i64_w, i32_w]; rfl)
             refine pure_ (i := 21) (N := some 122) (v := ?_) (a' := ?_) (bA 22 24) rfl rfl (any_of HT_.out (by kernel_rfl)) (fun _ _ _ h => h) (Or.inl ⟨by rfl, ?_⟩) ?_ ?_; rotate_left; (intro w'; go_simp; with_reducible rfl); rotate_left; (simp only [Act.put, sI_, s0_, sS_, i64_w, i32_w]; rfl)
             refine pure_ (i := 22) (N := some 123) (v := ?_) (a' := ?_) (bA 23 24) rfl rfl (any_of HT_.out (by kernel_rfl)) (fun _ _ _ h => h) (Or.inl ⟨by rfl, ?_⟩) ?_ ?_; rotate_left; (intro w'; go_simp; with_reducible rfl); rotate_left; (simp only [Act.put, sI_, s0_, sS_, i64_w, i32_w]; rfl)
             refine pure_ (i := 23) (N := some 17) (v := ?_) (a' := ?_) (bA 24 24) rfl rfl (any_of HT_.out (by kernel_rfl)) (fun _ _ _ h => h) (Or.inl ⟨by rfl, ?_⟩) ?_ ?_; rotate_left; (intro w'; go_simp; with_reducible rfl); rotate_left; (simp only [Act.put, sI_, s0_, sS_, i64_w, i32_w]; rfl)
             refine done_ (done_of HT_.out (by kernel_rfl)) ?_
             try go_wp2
             go_meet
             case rel => exact ⟨_, (decide ((wrap64 ((wrap64 ((rd l4 (ji60)) - (rd t268 (ji60)))) * x15_17)) ≥ 0)), (by first | rfl | (simp; done) | (simp only [← hji60]; rw [shl_one_small _ (by assumption) (by omega)]; done) | (simp only [← hji60] <;> (first | rfl | simp)) | (simp [*]; done) | (refine congrArg (Value.int .i64) ?_; unfold wrap64; omega) | (simp only [shl_one_small _ (by assumption) (by omega)]; done) | (simp [*]; rw [shl_one_small _ (by assumption) (by omega)]; done)), H', ⟨by have := HJ17.out; have := HJ31.out; first | omega | exact Nat.le_refl _⟩, ⟨by (with_reducible repeat (first | apply Kd.V_alloc | apply Kd.V_drewN | apply Kd.V_drew)); exact HO_4.out⟩, ⟨dR_ HO_12⟩, ⟨dR_ HO_277002⟩, ⟨dB_ BK260⟩, ⟨dB_ BK276⟩, ⟨dL2_ HB GE260 GE276⟩⟩
            ·rw [if_neg c63] at H
             exact absurd H (by simp)
           ·rw [if_neg c62] at H
            exact absurd H (by simp)
          ·rw [if_neg c61] at H
           exact absurd H (by simp)
         ·rw [if_neg c59] at H
          have c59b0 : (t281 == 0) = false := beq_eq_false_iff_ne.mpr c59
          have c59b1 : (t281 != 0) = true := bne_iff_ne.mpr c59
          (first | rw [c59b0] | (simp only [i64_w, i32_w]; rw [c59b0]) | skip)
          have H' := Aside0.mk H
          clear H
          try go_wp2
          replace HO_4 := Aside0.mk (Kd.V_drew HO_4.out)
          replace HO_12 := Aside0.mk (Kd.R_drew HO_12.out)
          replace HO_277002 := Aside0.mk (Kd.R_drew HO_277002.out)
          replace BK260 := Aside0.mk (blk_drew BK260.out)
          replace BK276 := Aside0.mk (blk_drew BK276.out)
          replace HB := Aside0.mk (below_drew1 HB.out)
          refine start_ (n := 24) (S := fun w' => w'.cell? ⟨gb260, 0, none⟩ = some (.int .i64 a0_0) ∧ w'.cell? ⟨gb260, 1, none⟩ = some (.int .i64 a0_1) ∧ w'.cell? ⟨gb260, 2, none⟩ = some (.slice A0_2 l0_2.length c0_2)) (ds := []) #[false, false, false, false, false, false, false, false, false, false, false, false, false, false, false, false, false, false, false, false, false, false, false, false] (by kernel_rfl) rfl rfl ⟨(blk_cell BK260.out 0).trans rfl, (blk_cell BK260.out 1).trans rfl, (blk_cell BK260.out 2).trans rfl⟩ (fun hHeld => ?_); refine with_tabW hinterlandlaw02_LandShiftsLeast.tab12 hinterlandlaw02_LandShiftsLeast.bits12 (fun HT_ HW_ => ?_)
          generalize wc.drew = w66 at HO_4 HO_12 HO_277002 BK260 BK276 HB hHeld ⊢
          refine pure_ (i := 0) (N := some 101) (v := ?_) (a' := ?_) (bA 1 24) rfl rfl (any_of HT_.out (by kernel_rfl)) (fun _ _ _ h => h) (Or.inl ⟨by rfl, ?_⟩) ?_ ?_; rotate_left; (intro w'; go_simp; with_reducible rfl); rotate_left; (simp only [Act.put, sI_, s0_, sS_, i64_w, i32_w]; rfl)
          refine pure_ (i := 2) (N := some 103) (v := ?_) (a' := ?_) #[true, false, true, false, false, false, false, false, false, false, false, false, false, false, false, false, false, false, false, false, false, false, false, false] rfl rfl (any_of HT_.out (by kernel_rfl)) (fun _ _ _ h => h) (Or.inl ⟨by rfl, ?_⟩) ?_ ?_; rotate_left; (intro w'; go_simp; with_reducible rfl); rotate_left; (simp only [Act.put, sI_, s0_, sS_, i64_w, i32_w]; rfl)
          refine pure_ (i := 4) (N := some 105) (v := ?_) (a' := ?_) #[true, false, true, false, true, false, false, false, false, false, false, false, false, false, false, false, false, false, false, false, false, false, false, false] rfl rfl (any_of HT_.out (by kernel_rfl)) (fun _ _ _ h => h) (Or.inl ⟨by rfl, ?_⟩) ?_ ?_; rotate_left; (intro w'; go_simp; with_reducible rfl); rotate_left; (simp only [Act.put, sI_, s0_, sS_, i64_w, i32_w]; rfl)
          refine take_ (i := 1) (N := some 102) (v := ?_) (a' := ?_) #[true, true, true, false, true, false, false, false, false, false, false, false, false, false, false, false, false, false, false, false, false, false, false, false] rfl rfl (take_ofW HT_.out HW_.out (by kernel_rfl)) (fun _ _ _ h => h) (Or.inl ⟨by rfl, ?_⟩) hHeld ?_ ?_; rotate_left; (rintro w' ⟨s0, s1, s2⟩; go_simp; with_reducible rfl); rotate_left; (simp only [Act.put, sI_, s0_, sS_, i64_w, i32_w]; rfl)
          refine take_ (i := 3) (N := some 104) (v := ?_) (a' := ?_) (bA 5 24) rfl rfl (take_ofW HT_.out HW_.out (by kernel_rfl)) (fun _ _ _ h => h) (Or.inl ⟨by rfl, ?_⟩) hHeld ?_ ?_; rotate_left; (rintro w' ⟨s0, s1, s2⟩; go_simp; with_reducible rfl); rotate_left; (simp only [Act.put, sI_, s0_, sS_, i64_w, i32_w]; rfl)
          refine pure_ (i := 5) (N := some 106) (v := ?_) (a' := ?_) (bA 6 24) rfl rfl (any_of HT_.out (by kernel_rfl)) (fun _ _ _ h => h) (Or.inl ⟨by rfl, ?_⟩) ?_ ?_; rotate_left; (intro w'; go_simp; with_reducible rfl); rotate_left; (simp only [Act.put, sI_, s0_, sS_, i64_w, i32_w]; rfl)
          refine one_ (i := 6) (N := some 107) (bA 7 24) rfl rfl (one_of HT_.out (by kernel_rfl)) (by decide) (fun K hK => ?_)
          refine goes_ Try.func17 (by kernel_rfl) rfl #[.agg #[.int .i64 a0_0, .int .i64 a0_1, .slice A4 l4.length c4]] (by rfl) rfl rfl tA_ ?_
          with_reducible refine (land_Validate.calls kj31 a0_0 a0_1 _ _ l4 t281 _ ?side1 ?side2 A58.out).mono ?_
          (case side1 => repeat (first | exact (Kd.V_reads' HO_4.out).2.2 | (with_reducible refine Kd.C_alloc ?_ _) | (with_reducible refine Kd.C_drewN ?_ _) | (with_reducible refine Kd.C_drew ?_)))
          (case side2 => exact (Kd.V_reads' HO_4.out).2.1)
          rintro e w67 ⟨rfl, hb⟩
          refine ⟨_, rfl, ?_⟩
          replace HO_4 := Aside0.mk (Kd.V_below (by (with_reducible repeat (first | apply Kd.V_alloc | apply Kd.V_drewN | apply Kd.V_drew)); exact HO_4.out) hb)
          replace HO_12 := Aside0.mk (Kd.R_below (dR_ HO_12) hb)
          replace HO_277002 := Aside0.mk (Kd.R_below (dR_ HO_277002) hb)
          replace BK260 := Aside0.mk (blk_below (g := gb260) (o := .cells #[.int .i64 a0_0, .int .i64 a0_1, .slice A0_2 l0_2.length c0_2] 24 (0, 0)) (dB_ BK260) hb)
          replace BK276 := Aside0.mk (blk_below (g := gb276) (o := .cells #[.int .i64 t266, .int .i64 t267, .slice Ao30 t268.length co30] 24 (0, 0)) (dB_ BK276) hb)
          replace HB := Aside0.mk (below_step (dL2_ HB GE260 GE276) hb)
          (try clear hb)
          (try clear hb2)
          (try clear hk)
          (try clear hi)
          refine hK.out _ _ ⟨(blk_cell BK260.out 0).trans rfl, (blk_cell BK260.out 1).trans rfl, (blk_cell BK260.out 2).trans rfl⟩ (fun hHeld => ?_)
          clear hK K
          refine norm_ (a' := ?_) ?_ ?_
          rotate_left
          ·show Act.put _ (some 107) _ = _
           simp only [Act.put, sI_, s0_, sS_, i64_w, i32_w]
           rfl
          refine pure_ (i := 7) (N := some 108) (v := ?_) (a' := ?_) (bA 8 24) rfl rfl (any_of HT_.out (by kernel_rfl)) (fun _ _ _ h => h) (Or.inl ⟨by rfl, ?_⟩) ?_ ?_; rotate_left; (intro w'; go_simp; with_reducible rfl); rotate_left; (simp only [Act.put, sI_, s0_, sS_, i64_w, i32_w]; rfl)
          refine pure_ (i := 8) (N := some 109) (v := ?_) (a' := ?_) (bA 9 24) rfl rfl (any_of HT_.out (by kernel_rfl)) (fun _ _ _ h => h) (Or.inl ⟨by rfl, ?_⟩) ?_ ?_; rotate_left; (intro w'; go_simp; with_reducible rfl); rotate_left; (simp only [Act.put, sI_, s0_, sS_, i64_w, i32_w]; rfl)
          refine pure_ (i := 9) (N := some 110) (v := undef) (a' := ?_) (bA 10 24) rfl rfl (any_of HT_.out (by kernel_rfl)) (fun _ _ _ h => h) (Or.inr ⟨by rfl, rfl⟩) ?_ ?_; rotate_left; (simp only [Act.put, sI_, s0_, sS_, i64_w, i32_w]; rfl)
          refine pure_ (i := 10) (N := some 111) (v := undef) (a' := ?_) (bA 11 24) rfl rfl (any_of HT_.out (by kernel_rfl)) (fun _ _ _ h => h) (Or.inr ⟨by rfl, rfl⟩) ?_ ?_; rotate_left; (simp only [Act.put, sI_, s0_, sS_, i64_w, i32_w]; rfl)
          refine pure_ (i := 11) (N := some 112) (v := undef) (a' := ?_) (bA 12 24) rfl rfl (any_of HT_.out (by kernel_rfl)) (fun _ _ _ h => h) (Or.inr ⟨by rfl, rfl⟩) ?_ ?_; rotate_left; (simp only [Act.put, sI_, s0_, sS_, i64_w, i32_w]; rfl)
          refine pure_ (i := 12) (N := some 113) (v := undef) (a' := ?_) (bA 13 24) rfl rfl (any_of HT_.out (by kernel_rfl)) (fun _ _ _ h => h) (Or.inr ⟨by rfl, rfl⟩) ?_ ?_; rotate_left; (simp only [Act.put, sI_, s0_, sS_, i64_w, i32_w]; rfl)
          refine pure_ (i := 13) (N := some 114) (v := undef) (a' := ?_) (bA 14 24) rfl rfl (any_of HT_.out (by kernel_rfl)) (fun _ _ _ h => h) (Or.inr ⟨by rfl, rfl⟩) ?_ ?_; rotate_left; (simp only [Act.put, sI_, s0_, sS_, i64_w, i32_w]; rfl)
          refine pure_ (i := 14) (N := some 115) (v := undef) (a' := ?_) (bA 15 24) rfl rfl (any_of HT_.out (by kernel_rfl)) (fun _ _ _ h => h) (Or.inr ⟨by rfl, rfl⟩) ?_ ?_; rotate_left; (simp only [Act.put, sI_, s0_, sS_, i64_w, i32_w]; rfl)
          refine pure_ (i := 15) (N := some 116) (v := undef) (a' := ?_) (bA 16 24) rfl rfl (any_of HT_.out (by kernel_rfl)) (fun _ _ _ h => h) (Or.inr ⟨by rfl, rfl⟩) ?_ ?_; rotate_left; (simp only [Act.put, sI_, s0_, sS_, i64_w, i32_w]; rfl)
          refine pure_ (i := 16) (N := some 117) (v := undef) (a' := ?_) (bA 17 24) rfl rfl (any_of HT_.out (by kernel_rfl)) (fun _ _ _ h => h) (Or.inr ⟨by rfl, rfl⟩) ?_ ?_; rotate_left; (simp only [Act.put, sI_, s0_, sS_, i64_w, i32_w]; rfl)
          refine pure_ (i := 17) (N := some 118) (v := undef) (a' := ?_) (bA 18 24) rfl rfl (any_of HT_.out (by kernel_rfl)) (fun _ _ _ h => h) (Or.inr ⟨by rfl, rfl⟩) ?_ ?_; rotate_left; (simp only [Act.put, sI_, s0_, sS_, i64_w, i32_w]; rfl)
          refine pure_ (i := 18) (N := some 119) (v := undef) (a' := ?_) (bA 19 24) rfl rfl (any_of HT_.out (by kernel_rfl)) (fun _ _ _ h => h) (Or.inr ⟨by rfl, rfl⟩) ?_ ?_; rotate_left; (simp only [Act.put, sI_, s0_, sS_, i64_w, i32_w]; rfl)
          refine pure_ (i := 19) (N := some 120) (v := undef) (a' := ?_) (bA 20 24) rfl rfl (any_of HT_.out (by kernel_rfl)) (fun _ _ _ h => h) (Or.inr ⟨by rfl, rfl⟩) ?_ ?_; rotate_left; (simp only [Act.put, sI_, s0_, sS_, i64_w, i32_w]; rfl)
          refine pure_ (i := 20) (N := some 121) (v := undef) (a' := ?_) (bA 21 24) rfl rfl (any_of HT_.out (by kernel_rfl)) (fun _ _ _ h => h) (Or.inr ⟨by rfl, rfl⟩) ?_ ?_; rotate_left; (simp only [Act.put, sI_, s0_, sS_, i64_w, i32_w]; rfl)
          refine pure_ (i := 21) (N := some 122) (v := undef) (a' := ?_) (bA 22 24) rfl rfl (any_of HT_.out (by kernel_rfl)) (fun _ _ _ h => h) (Or.inr ⟨by rfl, rfl⟩) ?_ ?_; rotate_left; (simp only [Act.put, sI_, s0_, sS_, i64_w, i32_w]; rfl)
          refine pure_ (i := 22) (N := some 123) (v := ?_) (a' := ?_) (bA 23 24) rfl rfl (any_of HT_.out (by kernel_rfl)) (fun _ _ _ h => h) (Or.inl ⟨by rfl, ?_⟩) ?_ ?_; rotate_left; (intro w'; go_simp; with_reducible rfl); rotate_left; (simp only [Act.put, sI_, s0_, sS_, i64_w, i32_w]; rfl)
          refine pure_ (i := 23) (N := some 17) (v := ?_) (a' := ?_) (bA 24 24) rfl rfl (any_of HT_.out (by kernel_rfl)) (fun _ _ _ h => h) (Or.inl ⟨by rfl, ?_⟩) ?_ ?_; rotate_left; (intro w'; go_simp; with_reducible rfl); rotate_left; (simp only [Act.put, sI_, s0_, sS_, i64_w, i32_w]; rfl)
          refine done_ (done_of HT_.out (by kernel_rfl)) ?_
          try go_wp2
          go_meet
          case rel => exact ⟨_, (false), tS_, H', ⟨by have := HJ17.out; have := HJ31.out; first | omega | exact Nat.le_refl _⟩, ⟨by (with_reducible repeat (first | apply Kd.V_alloc | apply Kd.V_drewN | apply Kd.V_drew)); exact HO_4.out⟩, ⟨dR_ HO_12⟩, ⟨dR_ HO_277002⟩, ⟨dB_ BK260⟩, ⟨dB_ BK276⟩, ⟨dL2_ HB GE260 GE276⟩⟩
        case rest => as_aux_lemma =>
         clear HC57
         try clear c4
         try clear c17
         try clear c36
         try clear c37
         try clear c56
         try clear c59
         try clear c61
         try clear c62
         try clear c63
         obtain ⟨kq, x17_56, rfl, HA, HJ56, HO_4, HO_12, HO_277002, BK260, BK276, HB⟩ := hcut
         cases kq with
         | zero => exact absurd HA.out (by simp [hinterlandlaw02_LandShiftsLeast.j3])
         | succ kj56 =>
          have H := HA.out
          clear HA
          simp only [hinterlandlaw02_LandShiftsLeast.j3] at H
          have H' := Aside0.mk H
          clear H
          have hnb68 := NB260_276.out
          have hnc68 := NB276_260.out
          obtain ⟨hcz69_0, hcz69_1, hcz69_2, hfz69_0, hfz69_1, hfz69_2⟩ := cs3_ BK260.out
          go_wp2
          go_loopg [17, 127] kj56 (fun kq v17 v127 w' => ∃ (x17_4 : Bool) (x127_4 : Int), v17 = .bool x17_4 ∧ v127 = .int .i64 x127_4 ∧ Aside0 (hinterlandlaw02_LandShiftsLeast.l0 kq l4 t271 x15_17 x17_4 (l0_2.length : Int) x127_4 a0_0 a0_1 l0_2 t266 t267 t268 = some r) ∧ Aside0 (kq ≤ kj56) ∧ Aside0 (Kd.V (Kd.int .i64) 3 w' w.heap.size (fun k_ => (P4_ k_ ∨ w.heap.size ≤ k_) ∧ some k_ ≠ (v272 : Value).ownBlock ∧ some k_ ≠ ((.slice Ao30 t268.length co30) : Value).ownBlock ∧ k_ ≠ gb260 ∧ k_ ≠ gb276) (.slice A4 l4.length c4) l4) ∧ Aside0 (Kd.R k36 36 w' w.heap.size (fun k_ => (w.heap.size ≤ k_)) v272 t271) ∧ Aside0 (Kd.R (Kd.int .i64) 3 w' w.heap.size (fun k_ => (w.heap.size ≤ k_)) (.slice Ao30 t268.length co30) t268) ∧ Aside0 (w'.heap[gb260]? = some (.cells #[.int .i64 a0_0, .int .i64 a0_1, (.slice A0_2 l0_2.length c0_2)] 24 (0, 0))) ∧ Aside0 (w'.heap[gb276]? = some (.cells #[.int .i64 t266, .int .i64 t267, (.slice Ao30 t268.length co30)] 24 (0, 0))) ∧ Aside0 (Below w.heap.size w w'))
          case atStart => exact ⟨(x17_56), (0), tS_, tS_, H', ⟨Nat.le_refl _⟩, ⟨by (with_reducible repeat (first | apply Kd.V_alloc | apply Kd.V_drewN | apply Kd.V_drew)); exact HO_4.out⟩, ⟨dR_ HO_12⟩, ⟨dR_ HO_277002⟩, ⟨dB_ BK260⟩, ⟨dB_ BK276⟩, ⟨dL2_ HB GE260 GE276⟩⟩
          case round =>
           clear H'
           try clear c4
           try clear c17
           try clear c36
           try clear c37
           try clear c56
           try clear c59
           try clear c61
           try clear c62
           try clear c63
           try clear hcz69_0
           try clear hcz69_1
           try clear hcz69_2
           try clear hfz69_0
           try clear hfz69_1
           try clear hfz69_2
           obtain ⟨x17_4, x127_4, rfl, rfl, HA, HK4, HO_4, HO_12, HO_277002, BK260, BK276, HB⟩ := hrel
           cases gk with
           | zero => exact absurd HA.out (by simp [hinterlandlaw02_LandShiftsLeast.l0])
           | succ k4 =>
            have H := HA.out
            clear HA
            simp only [hinterlandlaw02_LandShiftsLeast.l0] at H
            by_cases c70 : x127_4 < (l0_2.length : Int)
            ·rw [if_pos c70] at H
             have c70b0 : decide (x127_4 < (l0_2.length : Int)) = true := decide_eq_true c70
             clear c70
             have HC71 := Aside0.mk H
             clear H
             go_upto_block 1 with (fail)
             go_cut [17] (fun v17 wc => ∃ (kq : Nat) (x17_70 : Bool), v17 = .bool x17_70 ∧ Aside0 (hinterlandlaw02_LandShiftsLeast.j5 kq l4 t271 x15_17 x17_70 (l0_2.length : Int) x127_4 a0_0 a0_1 l0_2 t266 t267 t268 = some r) ∧ Aside0 (kq ≤ k4) ∧ Aside0 (Kd.V (Kd.int .i64) 3 wc w.heap.size (fun k_ => (P4_ k_ ∨ w.heap.size ≤ k_) ∧ some k_ ≠ (v272 : Value).ownBlock ∧ some k_ ≠ ((.slice Ao30 t268.length co30) : Value).ownBlock ∧ k_ ≠ gb260 ∧ k_ ≠ gb276) (.slice A4 l4.length c4) l4) ∧ Aside0 (Kd.R k36 36 wc w.heap.size (fun k_ => (w.heap.size ≤ k_)) v272 t271) ∧ Aside0 (Kd.R (Kd.int .i64) 3 wc w.heap.size (fun k_ => (w.heap.size ≤ k_)) (.slice Ao30 t268.length co30) t268) ∧ Aside0 (wc.heap[gb260]? = some (.cells #[.int .i64 a0_0, .int .i64 a0_1, (.slice A0_2 l0_2.length c0_2)] 24 (0, 0))) ∧ Aside0 (wc.heap[gb276]? = some (.cells #[.int .i64 t266, .int .i64 t267, (.slice Ao30 t268.length co30)] 24 (0, 0))) ∧ Aside0 (Below w.heap.size w wc))
             case first => as_aux_lemma =>
              have H := HC71.out
              clear HC71
              by_cases c72 : x17_4 = true
              ·subst c72
               have H1 : (if 0 ≤ x127_4 then (if x127_4 < (l4.length : Int) then (if x127_4 < (l0_2.length : Int) then (hinterlandlaw02_LandShiftsLeast.j5 k4 l4 t271 x15_17 (decide ((wrap64 ((wrap64 ((rd l4 x127_4) - (rd l0_2 x127_4))) * x15_17)) ≥ 0)) (l0_2.length : Int) x127_4 a0_0 a0_1 l0_2 t266 t267 t268) else (none)) else (none)) else (none)) = some r := by rw [if_pos rfl] at H; exact H
               clear H
               have H := H1
               clear H1
               by_cases c73 : 0 ≤ x127_4
               ·rw [if_pos c73] at H
                have c73b0 : decide (0 ≤ x127_4) = true := decide_eq_true c73
                clear c73
                (first | rw [c73b0] | (simp only [i64_w, i32_w]; rw [c73b0]) | skip)
                by_cases c74 : x127_4 < (l4.length : Int)
                ·rw [if_pos c74] at H
                 have c74b0 : decide (x127_4 < (l4.length : Int)) = true := decide_eq_true c74
                 clear c74
                 by_cases c75 : x127_4 < (l0_2.length : Int)
                 ·rw [if_pos c75] at H
                  have c75b0 : decide (x127_4 < (l0_2.length : Int)) = true := decide_eq_true c75
                  clear c75
                  have H' := Aside0.mk H
                  clear H
                  try go_wp2
                  replace HO_4 := Aside0.mk (Kd.V_drew HO_4.out)
                  replace HO_12 := Aside0.mk (Kd.R_drew HO_12.out)
                  replace HO_277002 := Aside0.mk (Kd.R_drew HO_277002.out)
                  replace BK260 := Aside0.mk (blk_drew BK260.out)
                  replace BK276 := Aside0.mk (blk_drew BK276.out)
                  replace HB := Aside0.mk (below_drew1 HB.out)
                  have p284 : 0 ≤ (x127_4 : Int) := of_decide_eq_true tW_
                  have q284 : x127_4 < (l4.length : Int) := of_decide_eq_true tW_
                  obtain ⟨ad284, e284, hx284_0⟩ := Kd.at_int (Kd.V_reads' HO_4.out).2.2 x127_4 p284 q284
                  cases e284
                  replace p284 := eq_true p284
                  replace q284 := eq_true q284
                  have p285 : 0 ≤ (x127_4 : Int) := of_decide_eq_true tW_
                  have q285 : x127_4 < (l0_2.length : Int) := of_decide_eq_true tW_
                  obtain ⟨ad285, e285, hx285_0⟩ := Kd.at_int HR0_2.out x127_4 p285 q285
                  have hw285_0 := hx285_0
                  cases e285
                  replace hx285_0 := bc_ HB hx285_0
                  replace p285 := eq_true p285
                  replace q285 := eq_true q285
                  refine start_ (n := 17) (S := fun w' => w'.cell? ⟨gb260, 0, none⟩ = some (.int .i64 a0_0) ∧ w'.cell? ⟨gb260, 1, none⟩ = some (.int .i64 a0_1) ∧ w'.cell? ⟨gb260, 2, none⟩ = some (.slice (some ad285) l0_2.length c0_2) ∧ w'.cell? (ad284.add (x127_4).toNat) = some (.int .i64 (rd l4 x127_4)) ∧ w'.cell? (ad285.add (x127_4).toNat) = some (.int .i64 (rd l0_2 x127_4))) (ds := []) #[false, false, false, false, false, false, false, false, false, false, false, false, false, false, false, false, false] (by kernel_rfl) rfl rfl ⟨(blk_cell BK260.out 0).trans rfl, (blk_cell BK260.out 1).trans rfl, (blk_cell BK260.out 2).trans rfl, hx284_0, ((HB.out.cell (World.block_lt_of_cell? w _ hw285_0)).trans hw285_0)⟩ (fun hHeld => ?_); refine with_tabW hinterlandlaw02_LandShiftsLeast.tab16 hinterlandlaw02_LandShiftsLeast.bits16 (fun HT_ HW_ => ?_)
                  generalize wr.drew = w76 at HO_4 HO_12 HO_277002 BK260 BK276 HB hx284_0 hx285_0 hHeld ⊢
                  refine pure_ (i := 0) (N := some 130) (v := ?_) (a' := ?_) (bA 1 17) rfl rfl (any_of HT_.out (by kernel_rfl)) (fun _ _ _ h => h) (Or.inl ⟨by rfl, ?_⟩) ?_ ?_; rotate_left; (intro w'; go_simp; with_reducible rfl); rotate_left; (simp only [Act.put, sI_, s0_, sS_, i64_w, i32_w]; rfl)
                  refine pure_ (i := 1) (N := some 131) (v := ?_) (a' := ?_) (bA 2 17) rfl rfl (any_of HT_.out (by kernel_rfl)) (fun _ _ _ h => h) (Or.inl ⟨by rfl, ?_⟩) ?_ ?_; rotate_left; (intro w'; go_simp; with_reducible rfl); rotate_left; (simp only [Act.put, sI_, s0_, sS_, i64_w, i32_w]; rfl)
                  refine pure_ (i := 2) (N := some 132) (v := ?_) (a' := ?_) (bA 3 17) rfl rfl (any_of HT_.out (by kernel_rfl)) (fun _ _ _ h => h) (Or.inl ⟨by rfl, ?_⟩) ?_ ?_; rotate_left; (intro w'; go_simp; with_reducible rfl); rotate_left; (simp only [Act.put, sI_, s0_, sS_, i64_w, i32_w]; rfl)
                  refine pure_ (i := 3) (N := some 133) (v := ?_) (a' := ?_) (bA 4 17) rfl rfl (any_of HT_.out (by kernel_rfl)) (fun _ _ _ h => h) (Or.inl ⟨by rfl, ?_⟩) ?_ ?_; rotate_left; (intro w'; go_simp; with_reducible rfl); rotate_left; (simp only [Act.put, sI_, s0_, sS_, i64_w, i32_w]; rfl)
                  refine pure_ (i := 4) (N := some 134) (v := ?_) (a' := ?_) (bA 5 17) rfl rfl (any_of HT_.out (by kernel_rfl)) (fun _ _ _ h => h) (Or.inl ⟨by rfl, ?_⟩) ?_ ?_; rotate_left; (intro w'; go_simp; with_reducible rfl); rotate_left; (simp only [Act.put, sI_, s0_, sS_, i64_w, i32_w]; rfl)
                  refine pure_ (i := 6) (N := some 136) (v := ?_) (a' := ?_) #[true, true, true, true, true, false, true, false, false, false, false, false, false, false, false, false, false] rfl rfl (any_of HT_.out (by kernel_rfl)) (fun _ _ _ h => h) (Or.inl ⟨by rfl, ?_⟩) ?_ ?_; rotate_left; (intro w'; go_simp; with_reducible rfl); rotate_left; (simp only [Act.put, sI_, s0_, sS_, i64_w, i32_w]; rfl)
                  refine pure_ (i := 8) (N := some 138) (v := ?_) (a' := ?_) #[true, true, true, true, true, false, true, false, true, false, false, false, false, false, false, false, false] rfl rfl (any_of HT_.out (by kernel_rfl)) (fun _ _ _ h => h) (Or.inl ⟨by rfl, ?_⟩) ?_ ?_; rotate_left; (intro w'; go_simp; with_reducible rfl); rotate_left; (simp only [Act.put, sI_, s0_, sS_, i64_w, i32_w]; rfl)
                  refine pure_ (i := 12) (N := some 142) (v := ?_) (a' := ?_) #[true, true, true, true, true, false, true, false, true, false, false, false, true, false, false, false, false] rfl rfl (any_of HT_.out (by kernel_rfl)) (fun _ _ _ h => h) (Or.inl ⟨by rfl, ?_⟩) ?_ ?_; rotate_left; (intro w'; go_simp; with_reducible rfl); rotate_left; (simp only [Act.put, sI_, s0_, sS_, i64_w, i32_w]; rfl)
                  refine take_ (i := 5) (N := some 135) (v := ?_) (a' := ?_) #[true, true, true, true, true, true, true, false, true, false, false, false, true, false, false, false, false] rfl rfl (take_ofW HT_.out HW_.out (by kernel_rfl)) (fun _ _ _ h => h) (Or.inl ⟨by rfl, ?_⟩) hHeld ?_ ?_; rotate_left; (rintro w' ⟨s0, s1, s2, s3, s4⟩; go_simp; with_reducible rfl); rotate_left; (simp only [Act.put, sI_, s0_, sS_, i64_w, i32_w]; rfl)
                  refine take_ (i := 7) (N := some 137) (v := ?_) (a' := ?_) #[true, true, true, true, true, true, true, true, true, false, false, false, true, false, false, false, false] rfl rfl (take_ofW HT_.out HW_.out (by kernel_rfl)) (fun _ _ _ h => h) (Or.inl ⟨by rfl, ?_⟩) hHeld ?_ ?_; rotate_left; (rintro w' ⟨s0, s1, s2, s3, s4⟩; go_simp; with_reducible rfl); rotate_left; (simp only [Act.put, sI_, s0_, sS_, i64_w, i32_w]; rfl)
                  refine pure_ (i := 9) (N := some 139) (v := ?_) (a' := ?_) #[true, true, true, true, true, true, true, true, true, true, false, false, true, false, false, false, false] rfl rfl (any_of HT_.out (by kernel_rfl)) (fun _ _ _ h => h) (Or.inl ⟨by rfl, ?_⟩) ?_ ?_; rotate_left; (intro w'; go_simp; with_reducible rfl); rotate_left; (simp only [Act.put, sI_, s0_, sS_, i64_w, i32_w]; rfl)
                  refine take_ (i := 10) (N := some 140) (v := ?_) (a' := ?_) #[true, true, true, true, true, true, true, true, true, true, true, false, true, false, false, false, false] rfl rfl (take_ofW HT_.out HW_.out (by kernel_rfl)) (fun _ _ _ h => h) (Or.inl ⟨by rfl, ?_⟩) hHeld ?_ ?_; rotate_left; (rintro w' ⟨s0, s1, s2, s3, s4⟩; go_simp; with_reducible rfl); rotate_left; (simp only [Act.put, sI_, s0_, sS_, i64_w, i32_w]; rfl)
                  refine pure_ (i := 11) (N := some 141) (v := ?_) (a' := ?_) (bA 13 17) rfl rfl (any_of HT_.out (by kernel_rfl)) (fun _ _ _ h => h) (Or.inl ⟨by rfl, ?_⟩) ?_ ?_; rotate_left; (intro w'; go_simp; with_reducible rfl); rotate_left; (simp only [Act.put, sI_, s0_, sS_, i64_w, i32_w]; rfl)
                  refine pure_ (i := 13) (N := some 143) (v := ?_) (a' := ?_) (bA 14 17) rfl rfl (any_of HT_.out (by kernel_rfl)) (fun _ _ _ h => h) (Or.inl ⟨by rfl, ?_⟩) ?_ ?_; rotate_left; (intro w'; go_simp; with_reducible rfl); rotate_left; (simp only [Act.put, sI_, s0_, sS_, i64_w, i32_w]; rfl)
                  refine pure_ (i := 14) (N := some 144) (v := ?_) (a' := ?_) (bA 15 17) rfl rfl (any_of HT_.out (by kernel_rfl)) (fun _ _ _ h => h) (Or.inl ⟨by rfl, ?_⟩) ?_ ?_; rotate_left; (intro w'; go_simp; with_reducible rfl); rotate_left; (simp only [Act.put, sI_, s0_, sS_, i64_w, i32_w]; rfl)
                  refine pure_ (i := 15) (N := some 145) (v := ?_) (a' := ?_) (bA 16 17) rfl rfl (any_of HT_.out (by kernel_rfl)) (fun _ _ _ h => h) (Or.inl ⟨by rfl, ?_⟩) ?_ ?_; rotate_left; (intro w'; go_simp; with_reducible rfl); rotate_left; (simp only [Act.put, sI_, s0_, sS_, i64_w, i32_w]; rfl)
                  refine pure_ (i := 16) (N := some 17) (v := ?_) (a' := ?_) (bA 17 17) rfl rfl (any_of HT_.out (by kernel_rfl)) (fun _ _ _ h => h) (Or.inl ⟨by rfl, ?_⟩) ?_ ?_; rotate_left; (intro w'; go_simp; with_reducible rfl); rotate_left; (simp only [Act.put, sI_, s0_, sS_, i64_w, i32_w]; rfl)
                  refine done_ (done_of HT_.out (by kernel_rfl)) ?_
                  try go_wp2
                  go_meet
                  case rel => exact ⟨_, (decide ((wrap64 ((wrap64 ((rd l4 x127_4) - (rd l0_2 x127_4))) * x15_17)) ≥ 0)), tS_, H', ⟨by have := HJ17.out; have := HJ31.out; have := HJ56.out; have := HK4.out; first | omega | exact Nat.le_refl _⟩, ⟨by (with_reducible repeat (first | apply Kd.V_alloc | apply Kd.V_drewN | apply Kd.V_drew)); exact HO_4.out⟩, ⟨dR_ HO_12⟩, ⟨dR_ HO_277002⟩, ⟨dB_ BK260⟩, ⟨dB_ BK276⟩, ⟨dL2_ HB GE260 GE276⟩⟩
                 ·rw [if_neg c75] at H
                  exact absurd H (by simp)
                ·rw [if_neg c74] at H
                 exact absurd H (by simp)
               ·rw [if_neg c73] at H
                exact absurd H (by simp)
              ·replace c72 := Bool.eq_false_iff.mpr c72
               subst c72
               have H1 : (hinterlandlaw02_LandShiftsLeast.j5 k4 l4 t271 x15_17 false (l0_2.length : Int) x127_4 a0_0 a0_1 l0_2 t266 t267 t268) = some r := by rw [if_neg (show ¬ (false = true) by decide)] at H; exact H
               clear H
               have H := H1
               clear H1
               have H' := Aside0.mk H
               clear H
               try go_wp2
               replace HO_4 := Aside0.mk (Kd.V_drew HO_4.out)
               replace HO_12 := Aside0.mk (Kd.R_drew HO_12.out)
               replace HO_277002 := Aside0.mk (Kd.R_drew HO_277002.out)
               replace BK260 := Aside0.mk (blk_drew BK260.out)
               replace BK276 := Aside0.mk (blk_drew BK276.out)
               replace HB := Aside0.mk (below_drew1 HB.out)
               refine start_ (n := 17) (S := fun w' => True) (ds := []) #[false, false, false, false, false, false, false, false, false, false, false, false, false, false, false, false, false] (by kernel_rfl) rfl rfl trivial (fun hHeld => ?_); refine with_tabW hinterlandlaw02_LandShiftsLeast.tab16 hinterlandlaw02_LandShiftsLeast.bits16 (fun HT_ HW_ => ?_)
               generalize wr.drew = w77 at HO_4 HO_12 HO_277002 BK260 BK276 HB hHeld ⊢
               refine pure_ (i := 0) (N := some 130) (v := ?_) (a' := ?_) (bA 1 17) rfl rfl (any_of HT_.out (by kernel_rfl)) (fun _ _ _ h => h) (Or.inl ⟨by rfl, ?_⟩) ?_ ?_; rotate_left; (intro w'; go_simp; with_reducible rfl); rotate_left; (simp only [Act.put, sI_, s0_, sS_, i64_w, i32_w]; rfl)
               refine pure_ (i := 1) (N := some 131) (v := ?_) (a' := ?_) (bA 2 17) rfl rfl (any_of HT_.out (by kernel_rfl)) (fun _ _ _ h => h) (Or.inl ⟨by rfl, ?_⟩) ?_ ?_; rotate_left; (intro w'; go_simp; with_reducible rfl); rotate_left; (simp only [Act.put, sI_, s0_, sS_, i64_w, i32_w]; rfl)
               refine pure_ (i := 2) (N := some 132) (v := undef) (a' := ?_) (bA 3 17) rfl rfl (any_of HT_.out (by kernel_rfl)) (fun _ _ _ h => h) (Or.inr ⟨by rfl, rfl⟩) ?_ ?_; rotate_left; (simp only [Act.put, sI_, s0_, sS_, i64_w, i32_w]; rfl)
               refine pure_ (i := 3) (N := some 133) (v := undef) (a' := ?_) (bA 4 17) rfl rfl (any_of HT_.out (by kernel_rfl)) (fun _ _ _ h => h) (Or.inr ⟨by rfl, rfl⟩) ?_ ?_; rotate_left; (simp only [Act.put, sI_, s0_, sS_, i64_w, i32_w]; rfl)
               refine pure_ (i := 4) (N := some 134) (v := undef) (a' := ?_) (bA 5 17) rfl rfl (any_of HT_.out (by kernel_rfl)) (fun _ _ _ h => h) (Or.inr ⟨by rfl, rfl⟩) ?_ ?_; rotate_left; (simp only [Act.put, sI_, s0_, sS_, i64_w, i32_w]; rfl)
               refine pure_ (i := 5) (N := some 135) (v := undef) (a' := ?_) (bA 6 17) rfl rfl (any_of HT_.out (by kernel_rfl)) (fun _ _ _ h => h) (Or.inr ⟨by rfl, rfl⟩) ?_ ?_; rotate_left; (simp only [Act.put, sI_, s0_, sS_, i64_w, i32_w]; rfl)
               refine pure_ (i := 6) (N := some 136) (v := undef) (a' := ?_) (bA 7 17) rfl rfl (any_of HT_.out (by kernel_rfl)) (fun _ _ _ h => h) (Or.inr ⟨by rfl, rfl⟩) ?_ ?_; rotate_left; (simp only [Act.put, sI_, s0_, sS_, i64_w, i32_w]; rfl)
               refine pure_ (i := 7) (N := some 137) (v := undef) (a' := ?_) (bA 8 17) rfl rfl (any_of HT_.out (by kernel_rfl)) (fun _ _ _ h => h) (Or.inr ⟨by rfl, rfl⟩) ?_ ?_; rotate_left; (simp only [Act.put, sI_, s0_, sS_, i64_w, i32_w]; rfl)
               refine pure_ (i := 8) (N := some 138) (v := undef) (a' := ?_) (bA 9 17) rfl rfl (any_of HT_.out (by kernel_rfl)) (fun _ _ _ h => h) (Or.inr ⟨by rfl, rfl⟩) ?_ ?_; rotate_left; (simp only [Act.put, sI_, s0_, sS_, i64_w, i32_w]; rfl)
               refine pure_ (i := 9) (N := some 139) (v := undef) (a' := ?_) (bA 10 17) rfl rfl (any_of HT_.out (by kernel_rfl)) (fun _ _ _ h => h) (Or.inr ⟨by rfl, rfl⟩) ?_ ?_; rotate_left; (simp only [Act.put, sI_, s0_, sS_, i64_w, i32_w]; rfl)
               refine pure_ (i := 10) (N := some 140) (v := undef) (a' := ?_) (bA 11 17) rfl rfl (any_of HT_.out (by kernel_rfl)) (fun _ _ _ h => h) (Or.inr ⟨by rfl, rfl⟩) ?_ ?_; rotate_left; (simp only [Act.put, sI_, s0_, sS_, i64_w, i32_w]; rfl)
               refine pure_ (i := 11) (N := some 141) (v := undef) (a' := ?_) (bA 12 17) rfl rfl (any_of HT_.out (by kernel_rfl)) (fun _ _ _ h => h) (Or.inr ⟨by rfl, rfl⟩) ?_ ?_; rotate_left; (simp only [Act.put, sI_, s0_, sS_, i64_w, i32_w]; rfl)
               refine pure_ (i := 12) (N := some 142) (v := undef) (a' := ?_) (bA 13 17) rfl rfl (any_of HT_.out (by kernel_rfl)) (fun _ _ _ h => h) (Or.inr ⟨by rfl, rfl⟩) ?_ ?_; rotate_left; (simp only [Act.put, sI_, s0_, sS_, i64_w, i32_w]; rfl)
               refine pure_ (i := 13) (N := some 143) (v := undef) (a' := ?_) (bA 14 17) rfl rfl (any_of HT_.out (by kernel_rfl)) (fun _ _ _ h => h) (Or.inr ⟨by rfl, rfl⟩) ?_ ?_; rotate_left; (simp only [Act.put, sI_, s0_, sS_, i64_w, i32_w]; rfl)
               refine pure_ (i := 14) (N := some 144) (v := undef) (a' := ?_) (bA 15 17) rfl rfl (any_of HT_.out (by kernel_rfl)) (fun _ _ _ h => h) (Or.inr ⟨by rfl, rfl⟩) ?_ ?_; rotate_left; (simp only [Act.put, sI_, s0_, sS_, i64_w, i32_w]; rfl)
               refine pure_ (i := 15) (N := some 145) (v := ?_) (a' := ?_) (bA 16 17) rfl rfl (any_of HT_.out (by kernel_rfl)) (fun _ _ _ h => h) (Or.inl ⟨by rfl, ?_⟩) ?_ ?_; rotate_left; (intro w'; go_simp; with_reducible rfl); rotate_left; (simp only [Act.put, sI_, s0_, sS_, i64_w, i32_w]; rfl)
               refine pure_ (i := 16) (N := some 17) (v := ?_) (a' := ?_) (bA 17 17) rfl rfl (any_of HT_.out (by kernel_rfl)) (fun _ _ _ h => h) (Or.inl ⟨by rfl, ?_⟩) ?_ ?_; rotate_left; (intro w'; go_simp; with_reducible rfl); rotate_left; (simp only [Act.put, sI_, s0_, sS_, i64_w, i32_w]; rfl)
               refine done_ (done_of HT_.out (by kernel_rfl)) ?_
               try go_wp2
               go_meet
               case rel => exact ⟨_, (false), tS_, H', ⟨by have := HJ17.out; have := HJ31.out; have := HJ56.out; have := HK4.out; first | omega | exact Nat.le_refl _⟩, ⟨by (with_reducible repeat (first | apply Kd.V_alloc | apply Kd.V_drewN | apply Kd.V_drew)); exact HO_4.out⟩, ⟨dR_ HO_12⟩, ⟨dR_ HO_277002⟩, ⟨dB_ BK260⟩, ⟨dB_ BK276⟩, ⟨dL2_ HB GE260 GE276⟩⟩
             case rest => as_aux_lemma =>
              clear HC71
              try clear c4
              try clear c7
              try clear c17
              try clear c36
              try clear c37
              try clear c56
              try clear c59
              try clear c61
              try clear c62
              try clear c63
              try clear c70
              try clear c70b0
              try clear c73
              try clear c74
              try clear c75
              try clear hcz69_0
              try clear hcz69_1
              try clear hcz69_2
              try clear hfz69_0
              try clear hfz69_1
              try clear hfz69_2
              obtain ⟨kq, x17_70, rfl, HA, HJ70, HO_4, HO_12, HO_277002, BK260, BK276, HB⟩ := hcut
              cases kq with
              | zero => exact absurd HA.out (by simp [hinterlandlaw02_LandShiftsLeast.j5])
              | succ kj70 =>
               have H := HA.out
               clear HA
               simp only [hinterlandlaw02_LandShiftsLeast.j5] at H
               have H' := Aside0.mk H
               clear H
               go_wp2
               go_roundg kj70
               case measure => have := HJ17.out; have := HJ31.out; have := HJ56.out; have := HK4.out; have := HJ70.out; omega
               case rel => exact ⟨(x17_70), (wrap64 (x127_4 + 1)), tS_, tS_, H', ⟨by have := HJ17.out; have := HJ31.out; have := HJ56.out; have := HK4.out; have := HJ70.out; omega⟩, ⟨by (with_reducible repeat (first | apply Kd.V_alloc | apply Kd.V_drewN | apply Kd.V_drew)); exact HO_4.out⟩, ⟨dR_ HO_12⟩, ⟨dR_ HO_277002⟩, ⟨dB_ BK260⟩, ⟨dB_ BK276⟩, ⟨dL2_ HB GE260 GE276⟩⟩
            ·rw [if_neg c70] at H
             have c70b0 : decide (x127_4 < (l0_2.length : Int)) = false := decide_eq_false c70
             clear c70
             have H' := Aside0.mk H
             clear H
             have hnb78 := NB260_276.out
             have hnc78 := NB276_260.out
             obtain ⟨hcz79_0, hcz79_1, hcz79_2, hfz79_0, hfz79_1, hfz79_2⟩ := cs3_ BK260.out
             go_wp2
             go_loopg [19, 150] k4 (fun kq v19 v150 w' => ∃ (x19_5 : Int) (x150_5 : Int), v19 = .int .i64 x19_5 ∧ v150 = .int .i64 x150_5 ∧ Aside0 (hinterlandlaw02_LandShiftsLeast.l1 kq l4 t271 x15_17 x17_4 x19_5 (l0_2.length : Int) x150_5 a0_0 a0_1 l0_2 t266 t267 t268 = some r) ∧ Aside0 (kq ≤ k4) ∧ Aside0 (Kd.V (Kd.int .i64) 3 w' w.heap.size (fun k_ => (P4_ k_ ∨ w.heap.size ≤ k_) ∧ some k_ ≠ (v272 : Value).ownBlock ∧ some k_ ≠ ((.slice Ao30 t268.length co30) : Value).ownBlock ∧ k_ ≠ gb260 ∧ k_ ≠ gb276) (.slice A4 l4.length c4) l4) ∧ Aside0 (Kd.R k36 36 w' w.heap.size (fun k_ => (w.heap.size ≤ k_)) v272 t271) ∧ Aside0 (Kd.R (Kd.int .i64) 3 w' w.heap.size (fun k_ => (w.heap.size ≤ k_)) (.slice Ao30 t268.length co30) t268) ∧ Aside0 (w'.heap[gb260]? = some (.cells #[.int .i64 a0_0, .int .i64 a0_1, (.slice A0_2 l0_2.length c0_2)] 24 (0, 0))) ∧ Aside0 (w'.heap[gb276]? = some (.cells #[.int .i64 t266, .int .i64 t267, (.slice Ao30 t268.length co30)] 24 (0, 0))) ∧ Aside0 (Below w.heap.size w w'))
             case atStart => exact ⟨(0), (0), tS_, tS_, H', ⟨Nat.le_refl _⟩, ⟨by (with_reducible repeat (first | apply Kd.V_alloc | apply Kd.V_drewN | apply Kd.V_drew)); exact HO_4.out⟩, ⟨dR_ HO_12⟩, ⟨dR_ HO_277002⟩, ⟨dB_ BK260⟩, ⟨dB_ BK276⟩, ⟨dL2_ HB GE260 GE276⟩⟩
             case round =>
              clear H'
              try clear c4
              try clear c7
              try clear c17
              try clear c36
              try clear c37
              try clear c56
              try clear c59
              try clear c61
              try clear c62
              try clear c63
              try clear c70
              try clear c70b0
              try clear c73
              try clear c74
              try clear c75
              try clear hcz69_0
              try clear hcz69_1
              try clear hcz69_2
              try clear hcz79_0
              try clear hcz79_1
              try clear hcz79_2
              try clear hfz69_0
              try clear hfz69_1
              try clear hfz69_2
              try clear hfz79_0
              try clear hfz79_1
              try clear hfz79_2
              obtain ⟨x19_5, x150_5, rfl, rfl, HA, HK5, HO_4, HO_12, HO_277002, BK260, BK276, HB⟩ := hrel
              cases gk with
              | zero => exact absurd HA.out (by simp [hinterlandlaw02_LandShiftsLeast.l1])
              | succ k5 =>
               have H := HA.out
               clear HA
               simp only [hinterlandlaw02_LandShiftsLeast.l1] at H
               by_cases c80 : x150_5 < (l0_2.length : Int)
               ·rw [if_pos c80] at H
                have c80b0 : decide (x150_5 < (l0_2.length : Int)) = true := decide_eq_true c80
                clear c80
                by_cases c81 : 0 ≤ x150_5
                ·rw [if_pos c81] at H
                 have c81b0 : decide (0 ≤ x150_5) = true := decide_eq_true c81
                 clear c81
                 by_cases c82 : x150_5 < (t268.length : Int)
                 ·rw [if_pos c82] at H
                  have c82b0 : decide (x150_5 < (t268.length : Int)) = true := decide_eq_true c82
                  clear c82
                  by_cases c83 : x150_5 < (l0_2.length : Int)
                  ·rw [if_pos c83] at H
                   have c83b0 : decide (x150_5 < (l0_2.length : Int)) = true := decide_eq_true c83
                   clear c83
                   have HC84 := Aside0.mk H
                   clear H
                   try go_wp2
                   replace HO_4 := Aside0.mk (Kd.V_drew HO_4.out)
                   replace HO_12 := Aside0.mk (Kd.R_drew HO_12.out)
                   replace HO_277002 := Aside0.mk (Kd.R_drew HO_277002.out)
                   replace BK260 := Aside0.mk (blk_drew BK260.out)
                   replace BK276 := Aside0.mk (blk_drew BK276.out)
                   replace HB := Aside0.mk (below_drew1 HB.out)
                   have p286 : 0 ≤ (x150_5 : Int) := of_decide_eq_true tW_
                   have q286 : x150_5 < (t268.length : Int) := of_decide_eq_true tW_
                   obtain ⟨ad286, e286, hx286_0⟩ := Kd.at_int (Kd.R_reads' HO_277002.out).2.2 x150_5 p286 q286
                   cases e286
                   replace p286 := eq_true p286
                   replace q286 := eq_true q286
                   have p287 : 0 ≤ (x150_5 : Int) := of_decide_eq_true tW_
                   have q287 : x150_5 < (l0_2.length : Int) := of_decide_eq_true tW_
                   obtain ⟨ad287, e287, hx287_0⟩ := Kd.at_int HR0_2.out x150_5 p287 q287
                   have hw287_0 := hx287_0
                   cases e287
                   replace hx287_0 := bc_ HB hx287_0
                   replace p287 := eq_true p287
                   replace q287 := eq_true q287
                   refine start_ (n := 11) (S := fun w' => w'.cell? ⟨gb276, 0, none⟩ = some (.int .i64 t266) ∧ w'.cell? ⟨gb276, 1, none⟩ = some (.int .i64 t267) ∧ w'.cell? ⟨gb276, 2, none⟩ = some (.slice (some ad286) t268.length co30) ∧ w'.cell? ⟨gb260, 0, none⟩ = some (.int .i64 a0_0) ∧ w'.cell? ⟨gb260, 1, none⟩ = some (.int .i64 a0_1) ∧ w'.cell? ⟨gb260, 2, none⟩ = some (.slice (some ad287) l0_2.length c0_2) ∧ w'.cell? (ad286.add (x150_5).toNat) = some (.int .i64 (rd t268 x150_5)) ∧ w'.cell? (ad287.add (x150_5).toNat) = some (.int .i64 (rd l0_2 x150_5))) (ds := []) #[false, false, false, false, false, false, false, false, false, false, false] (by kernel_rfl) rfl rfl ⟨(blk_cell BK276.out 0).trans rfl, (blk_cell BK276.out 1).trans rfl, (blk_cell BK276.out 2).trans rfl, (blk_cell BK260.out 0).trans rfl, (blk_cell BK260.out 1).trans rfl, (blk_cell BK260.out 2).trans rfl, hx286_0, ((HB.out.cell (World.block_lt_of_cell? w _ hw287_0)).trans hw287_0)⟩ (fun hHeld => ?_); refine with_tabW hinterlandlaw02_LandShiftsLeast.tab22 hinterlandlaw02_LandShiftsLeast.bits22 (fun HT_ HW_ => ?_)
                   generalize wr.drew = w85 at HO_4 HO_12 HO_277002 BK260 BK276 HB hx286_0 hx287_0 hHeld ⊢
                   refine pure_ (i := 0) (N := some 153) (v := ?_) (a' := ?_) (bA 1 11) rfl rfl (any_of HT_.out (by kernel_rfl)) (fun _ _ _ h => h) (Or.inl ⟨by rfl, ?_⟩) ?_ ?_; rotate_left; (intro w'; go_simp; with_reducible rfl); rotate_left; (simp only [Act.put, sI_, s0_, sS_, i64_w, i32_w]; rfl)
                   refine pure_ (i := 2) (N := some 155) (v := ?_) (a' := ?_) #[true, false, true, false, false, false, false, false, false, false, false] rfl rfl (any_of HT_.out (by kernel_rfl)) (fun _ _ _ h => h) (Or.inl ⟨by rfl, ?_⟩) ?_ ?_; rotate_left; (intro w'; go_simp; with_reducible rfl); rotate_left; (simp only [Act.put, sI_, s0_, sS_, i64_w, i32_w]; rfl)
                   refine pure_ (i := 5) (N := some 158) (v := ?_) (a' := ?_) #[true, false, true, false, false, true, false, false, false, false, false] rfl rfl (any_of HT_.out (by kernel_rfl)) (fun _ _ _ h => h) (Or.inl ⟨by rfl, ?_⟩) ?_ ?_; rotate_left; (intro w'; go_simp; with_reducible rfl); rotate_left; (simp only [Act.put, sI_, s0_, sS_, i64_w, i32_w]; rfl)
                   refine pure_ (i := 7) (N := some 160) (v := ?_) (a' := ?_) #[true, false, true, false, false, true, false, true, false, false, false] rfl rfl (any_of HT_.out (by kernel_rfl)) (fun _ _ _ h => h) (Or.inl ⟨by rfl, ?_⟩) ?_ ?_; rotate_left; (intro w'; go_simp; with_reducible rfl); rotate_left; (simp only [Act.put, sI_, s0_, sS_, i64_w, i32_w]; rfl)
                   refine take_ (i := 1) (N := some 154) (v := ?_) (a' := ?_) #[true, true, true, false, false, true, false, true, false, false, false] rfl rfl (take_ofW HT_.out HW_.out (by kernel_rfl)) (fun _ _ _ h => h) (Or.inl ⟨by rfl, ?_⟩) hHeld ?_ ?_; rotate_left; (rintro w' ⟨s0, s1, s2, s3, s4, s5, s6, s7⟩; go_simp; with_reducible rfl); rotate_left; (simp only [Act.put, sI_, s0_, sS_, i64_w, i32_w]; rfl)
                   refine pure_ (i := 3) (N := some 156) (v := ?_) (a' := ?_) #[true, true, true, true, false, true, false, true, false, false, false] rfl rfl (any_of HT_.out (by kernel_rfl)) (fun _ _ _ h => h) (Or.inl ⟨by rfl, ?_⟩) ?_ ?_; rotate_left; (intro w'; go_simp; with_reducible rfl); rotate_left; (simp only [Act.put, sI_, s0_, sS_, i64_w, i32_w]; rfl)
                   refine take_ (i := 4) (N := some 157) (v := ?_) (a' := ?_) #[true, true, true, true, true, true, false, true, false, false, false] rfl rfl (take_ofW HT_.out HW_.out (by kernel_rfl)) (fun _ _ _ h => h) (Or.inl ⟨by rfl, ?_⟩) hHeld ?_ ?_; rotate_left; (rintro w' ⟨s0, s1, s2, s3, s4, s5, s6, s7⟩; go_simp; with_reducible rfl); rotate_left; (simp only [Act.put, sI_, s0_, sS_, i64_w, i32_w]; rfl)
                   refine take_ (i := 6) (N := some 159) (v := ?_) (a' := ?_) (bA 8 11) rfl rfl (take_ofW HT_.out HW_.out (by kernel_rfl)) (fun _ _ _ h => h) (Or.inl ⟨by rfl, ?_⟩) hHeld ?_ ?_; rotate_left; (rintro w' ⟨s0, s1, s2, s3, s4, s5, s6, s7⟩; go_simp; with_reducible rfl); rotate_left; (simp only [Act.put, sI_, s0_, sS_, i64_w, i32_w]; rfl)
                   refine pure_ (i := 8) (N := some 161) (v := ?_) (a' := ?_) (bA 9 11) rfl rfl (any_of HT_.out (by kernel_rfl)) (fun _ _ _ h => h) (Or.inl ⟨by rfl, ?_⟩) ?_ ?_; rotate_left; (intro w'; go_simp; with_reducible rfl); rotate_left; (simp only [Act.put, sI_, s0_, sS_, i64_w, i32_w]; rfl)
                   refine take_ (i := 9) (N := some 162) (v := ?_) (a' := ?_) (bA 10 11) rfl rfl (take_ofW HT_.out HW_.out (by kernel_rfl)) (fun _ _ _ h => h) (Or.inl ⟨by rfl, ?_⟩) hHeld ?_ ?_; rotate_left; (rintro w' ⟨s0, s1, s2, s3, s4, s5, s6, s7⟩; go_simp; with_reducible rfl); rotate_left; (simp only [Act.put, sI_, s0_, sS_, i64_w, i32_w]; rfl)
                   refine pure_ (i := 10) (N := some 163) (v := ?_) (a' := ?_) (bA 11 11) rfl rfl (any_of HT_.out (by kernel_rfl)) (fun _ _ _ h => h) (Or.inl ⟨by rfl, ?_⟩) ?_ ?_; rotate_left; (intro w'; go_simp; with_reducible rfl); rotate_left; (simp only [Act.put, sI_, s0_, sS_, i64_w, i32_w]; rfl)
                   refine done_ (done_of HT_.out (by kernel_rfl)) ?_
                   go_upto_if 163 with (fail)
                   go_cut [19] (fun v19 wc => ∃ (kq : Nat) (x19_83 : Int), v19 = .int .i64 x19_83 ∧ Aside0 (hinterlandlaw02_LandShiftsLeast.j8 kq l4 t271 x15_17 x17_4 x19_83 x150_5 (l0_2.length : Int) x150_5 a0_0 a0_1 l0_2 t266 t267 t268 = some r) ∧ Aside0 (kq ≤ k5) ∧ Aside0 (Kd.V (Kd.int .i64) 3 wc w.heap.size (fun k_ => (P4_ k_ ∨ w.heap.size ≤ k_) ∧ some k_ ≠ (v272 : Value).ownBlock ∧ some k_ ≠ ((.slice (some ad286) t268.length co30) : Value).ownBlock ∧ k_ ≠ gb260 ∧ k_ ≠ gb276) (.slice A4 l4.length c4) l4) ∧ Aside0 (Kd.R k36 36 wc w.heap.size (fun k_ => (w.heap.size ≤ k_)) v272 t271) ∧ Aside0 (Kd.R (Kd.int .i64) 3 wc w.heap.size (fun k_ => (w.heap.size ≤ k_)) (.slice (some ad286) t268.length co30) t268) ∧ Aside0 (wc.heap[gb260]? = some (.cells #[.int .i64 a0_0, .int .i64 a0_1, (.slice (some ad287) l0_2.length c0_2)] 24 (0, 0))) ∧ Aside0 (wc.heap[gb276]? = some (.cells #[.int .i64 t266, .int .i64 t267, (.slice (some ad286) t268.length co30)] 24 (0, 0))) ∧ Aside0 (Below w.heap.size w wc))
                   case first => as_aux_lemma =>
                    have H := HC84.out
                    clear HC84
                    by_cases c86 : (rd t268 x150_5) = (rd l0_2 x150_5)
                    ·rw [if_pos c86] at H
                     have c86b0 : ((rd t268 x150_5) == (rd l0_2 x150_5)) = true := beq_iff_eq.mpr c86
                     have c86b1 : ((rd t268 x150_5) != (rd l0_2 x150_5)) = false := bne_eq_false_iff_eq.mpr c86
                     clear c86
                     (first | rw [c86b0] | (simp only [i64_w, i32_w]; rw [c86b0]) | skip)
                     have H' := Aside0.mk H
                     clear H
                     go_wp2
                     go_meet
                     case rel => exact ⟨_, (x19_5), tS_, H', ⟨by have := HJ17.out; have := HJ31.out; have := HJ56.out; have := HK4.out; have := HK5.out; first | omega | exact Nat.le_refl _⟩, ⟨by (with_reducible repeat (first | apply Kd.V_alloc | apply Kd.V_drewN | apply Kd.V_drew)); exact HO_4.out⟩, ⟨dR_ HO_12⟩, ⟨dR_ HO_277002⟩, ⟨dB_ BK260⟩, ⟨dB_ BK276⟩, ⟨dL2_ HB GE260 GE276⟩⟩
                    ·rw [if_neg c86] at H
                     have c86b0 : ((rd t268 x150_5) == (rd l0_2 x150_5)) = false := beq_eq_false_iff_ne.mpr c86
                     have c86b1 : ((rd t268 x150_5) != (rd l0_2 x150_5)) = true := bne_iff_ne.mpr c86
                     (first | rw [c86b0] | (simp only [i64_w, i32_w]; rw [c86b0]) | skip)
                     have HC87 := Aside0.mk H
                     clear H
                     go_upto_region 23 with (fail)
                     go_cut [205] (fun v205 wc => ∃ (kq : Nat) (x205_86 : Bool), v205 = .bool x205_86 ∧ Aside0 (hinterlandlaw02_LandShiftsLeast.j7 kq l4 t271 x15_17 x17_4 x19_5 x150_5 (l0_2.length : Int) x150_5 x205_86 a0_0 a0_1 l0_2 t266 t267 t268 = some r) ∧ Aside0 (kq ≤ k5) ∧ Aside0 (Kd.V (Kd.int .i64) 3 wc w.heap.size (fun k_ => (P4_ k_ ∨ w.heap.size ≤ k_) ∧ some k_ ≠ (v272 : Value).ownBlock ∧ some k_ ≠ ((.slice (some ad286) t268.length co30) : Value).ownBlock ∧ k_ ≠ gb260 ∧ k_ ≠ gb276) (.slice A4 l4.length c4) l4) ∧ Aside0 (Kd.R k36 36 wc w.heap.size (fun k_ => (w.heap.size ≤ k_)) v272 t271) ∧ Aside0 (Kd.R (Kd.int .i64) 3 wc w.heap.size (fun k_ => (w.heap.size ≤ k_)) (.slice (some ad286) t268.length co30) t268) ∧ Aside0 (wc.heap[gb260]? = some (.cells #[.int .i64 a0_0, .int .i64 a0_1, (.slice (some ad287) l0_2.length c0_2)] 24 (0, 0))) ∧ Aside0 (wc.heap[gb276]? = some (.cells #[.int .i64 t266, .int .i64 t267, (.slice (some ad286) t268.length co30)] 24 (0, 0))) ∧ Aside0 (Below w.heap.size w wc))
                     case first => as_aux_lemma =>
                      have H := HC87.out
                      clear HC87
                      by_cases c88 : (rd t268 x150_5) = (wrap64 ((rd l0_2 x150_5) + x15_17))
                      ·rw [if_pos c88] at H
                       have c88b0 : ((rd t268 x150_5) == (wrap64 ((rd l0_2 x150_5) + x15_17))) = true := beq_iff_eq.mpr c88
                       have c88b1 : ((rd t268 x150_5) != (wrap64 ((rd l0_2 x150_5) + x15_17))) = false := bne_eq_false_iff_eq.mpr c88
                       clear c88
                       (first | rw [c88b0] | (simp only [i64_w, i32_w]; rw [c88b0]) | skip)
                       by_cases c89 : x19_5 ≥ (t271.length : Int)
                       ·rw [if_pos c89] at H
                        have c89b0 : decide ((t271.length : Int) ≤ x19_5) = true := decide_eq_true c89
                        clear c89
                        have H' := Aside0.mk H
                        clear H
                        try go_wp2
                        replace HO_4 := Aside0.mk (Kd.V_drew HO_4.out)
                        replace HO_12 := Aside0.mk (Kd.R_drew HO_12.out)
                        replace HO_277002 := Aside0.mk (Kd.R_drew HO_277002.out)
                        replace BK260 := Aside0.mk (blk_drew BK260.out)
                        replace BK276 := Aside0.mk (blk_drew BK276.out)
                        replace HB := Aside0.mk (below_drew1 HB.out)
                        have p288 : 0 ≤ (x150_5 : Int) := of_decide_eq_true tW_
                        have q288 : x150_5 < (t268.length : Int) := of_decide_eq_true tW_
                        obtain ⟨ad288, e288, hx288_0⟩ := Kd.at_int (Kd.R_reads' HO_277002.out).2.2 x150_5 p288 q288
                        obtain rfl : ad286 = ad288 := (by injection e288)
                        replace p288 := eq_true p288
                        replace q288 := eq_true q288
                        have p289 : 0 ≤ (x150_5 : Int) := of_decide_eq_true tW_
                        have q289 : x150_5 < (l0_2.length : Int) := of_decide_eq_true tW_
                        obtain ⟨ad289, e289, hx289_0⟩ := Kd.at_int HR0_2.out x150_5 p289 q289
                        have hw289_0 := hx289_0
                        obtain rfl : ad287 = ad289 := (by injection e289)
                        replace hx289_0 := bc_ HB hx289_0
                        replace p289 := eq_true p289
                        replace q289 := eq_true q289
                        obtain ⟨Ao91, co91, eo91⟩ := Kd.R_slice HO_12.out
                        (first | subst eo91 | (injection eo91 with f1_ f2_ f3_; have f4_ := f1_.symm; have f5_ := f3_.symm; clear f1_ f2_ f3_; subst f4_; subst f5_))
                        refine start_ (n := 42) (S := fun w' => w'.cell? ⟨gb276, 0, none⟩ = some (.int .i64 t266) ∧ w'.cell? ⟨gb276, 1, none⟩ = some (.int .i64 t267) ∧ w'.cell? ⟨gb276, 2, none⟩ = some (.slice (some ad286) t268.length co30) ∧ w'.cell? ⟨gb260, 0, none⟩ = some (.int .i64 a0_0) ∧ w'.cell? ⟨gb260, 1, none⟩ = some (.int .i64 a0_1) ∧ w'.cell? ⟨gb260, 2, none⟩ = some (.slice (some ad287) l0_2.length c0_2) ∧ w'.cell? (ad286.add (x150_5).toNat) = some (.int .i64 (rd t268 x150_5)) ∧ w'.cell? (ad287.add (x150_5).toNat) = some (.int .i64 (rd l0_2 x150_5))) (ds := []) #[false, false, false, false, false, false, false, false, false, false, false, false, false, false, false, false, false, false, false, false, false, false, false, false, false, false, false, false, false, false, false, false, false, false, false, false, false, false, false, false, false, false] (by kernel_rfl) rfl rfl ⟨(blk_cell BK276.out 0).trans rfl, (blk_cell BK276.out 1).trans rfl, (blk_cell BK276.out 2).trans rfl, (blk_cell BK260.out 0).trans rfl, (blk_cell BK260.out 1).trans rfl, (blk_cell BK260.out 2).trans rfl, hx288_0, ((HB.out.cell (World.block_lt_of_cell? w _ hw289_0)).trans hw289_0)⟩ (fun hHeld => ?_); refine with_tabW hinterlandlaw02_LandShiftsLeast.tab23 hinterlandlaw02_LandShiftsLeast.bits23 (fun HT_ HW_ => ?_)
                        generalize w85.drew = w90 at HO_4 HO_12 HO_277002 BK260 BK276 HB hx288_0 hx289_0 hHeld ⊢
                        refine pure_ (i := 0) (N := some 164) (v := ?_) (a' := ?_) (bA 1 42) rfl rfl (any_of HT_.out (by kernel_rfl)) (fun _ _ _ h => h) (Or.inl ⟨by rfl, ?_⟩) ?_ ?_; rotate_left; (intro w'; go_simp; with_reducible rfl); rotate_left; (simp only [Act.put, sI_, s0_, sS_, i64_w, i32_w]; rfl)
                        refine pure_ (i := 2) (N := some 166) (v := ?_) (a' := ?_) #[true, false, true, false, false, false, false, false, false, false, false, false, false, false, false, false, false, false, false, false, false, false, false, false, false, false, false, false, false, false, false, false, false, false, false, false, false, false, false, false, false, false] rfl rfl (any_of HT_.out (by kernel_rfl)) (fun _ _ _ h => h) (Or.inl ⟨by rfl, ?_⟩) ?_ ?_; rotate_left; (intro w'; go_simp; with_reducible rfl); rotate_left; (simp only [Act.put, sI_, s0_, sS_, i64_w, i32_w]; rfl)
                        refine pure_ (i := 5) (N := some 169) (v := ?_) (a' := ?_) #[true, false, true, false, false, true, false, false, false, false, false, false, false, false, false, false, false, false, false, false, false, false, false, false, false, false, false, false, false, false, false, false, false, false, false, false, false, false, false, false, false, false] rfl rfl (any_of HT_.out (by kernel_rfl)) (fun _ _ _ h => h) (Or.inl ⟨by rfl, ?_⟩) ?_ ?_; rotate_left; (intro w'; go_simp; with_reducible rfl); rotate_left; (simp only [Act.put, sI_, s0_, sS_, i64_w, i32_w]; rfl)
                        refine pure_ (i := 7) (N := some 171) (v := ?_) (a' := ?_) #[true, false, true, false, false, true, false, true, false, false, false, false, false, false, false, false, false, false, false, false, false, false, false, false, false, false, false, false, false, false, false, false, false, false, false, false, false, false, false, false, false, false] rfl rfl (any_of HT_.out (by kernel_rfl)) (fun _ _ _ h => h) (Or.inl ⟨by rfl, ?_⟩) ?_ ?_; rotate_left; (intro w'; go_simp; with_reducible rfl); rotate_left; (simp only [Act.put, sI_, s0_, sS_, i64_w, i32_w]; rfl)
                        refine pure_ (i := 10) (N := some 174) (v := ?_) (a' := ?_) #[true, false, true, false, false, true, false, true, false, false, true, false, false, false, false, false, false, false, false, false, false, false, false, false, false, false, false, false, false, false, false, false, false, false, false, false, false, false, false, false, false, false] rfl rfl (any_of HT_.out (by kernel_rfl)) (fun _ _ _ h => h) (Or.inl ⟨by rfl, ?_⟩) ?_ ?_; rotate_left; (intro w'; go_simp; with_reducible rfl); rotate_left; (simp only [Act.put, sI_, s0_, sS_, i64_w, i32_w]; rfl)
                        refine take_ (i := 1) (N := some 165) (v := ?_) (a' := ?_) #[true, true, true, false, false, true, false, true, false, false, true, false, false, false, false, false, false, false, false, false, false, false, false, false, false, false, false, false, false, false, false, false, false, false, false, false, false, false, false, false, false, false] rfl rfl (take_ofW HT_.out HW_.out (by kernel_rfl)) (fun _ _ _ h => h) (Or.inl ⟨by rfl, ?_⟩) hHeld ?_ ?_; rotate_left; (rintro w' ⟨s0, s1, s2, s3, s4, s5, s6, s7⟩; go_simp; with_reducible rfl); rotate_left; (simp only [Act.put, sI_, s0_, sS_, i64_w, i32_w]; rfl)
                        refine pure_ (i := 3) (N := some 167) (v := ?_) (a' := ?_) #[true, true, true, true, false, true, false, true, false, false, true, false, false, false, false, false, false, false, false, false, false, false, false, false, false, false, false, false, false, false, false, false, false, false, false, false, false, false, false, false, false, false] rfl rfl (any_of HT_.out (by kernel_rfl)) (fun _ _ _ h => h) (Or.inl ⟨by rfl, ?_⟩) ?_ ?_; rotate_left; (intro w'; go_simp; with_reducible rfl); rotate_left; (simp only [Act.put, sI_, s0_, sS_, i64_w, i32_w]; rfl)
                        refine take_ (i := 4) (N := some 168) (v := ?_) (a' := ?_) #[true, true, true, true, true, true, false, true, false, false, true, false, false, false, false, false, false, false, false, false, false, false, false, false, false, false, false, false, false, false, false, false, false, false, false, false, false, false, false, false, false, false] rfl rfl (take_ofW HT_.out HW_.out (by kernel_rfl)) (fun _ _ _ h => h) (Or.inl ⟨by rfl, ?_⟩) hHeld ?_ ?_; rotate_left; (rintro w' ⟨s0, s1, s2, s3, s4, s5, s6, s7⟩; go_simp; with_reducible rfl); rotate_left; (simp only [Act.put, sI_, s0_, sS_, i64_w, i32_w]; rfl)
                        refine take_ (i := 6) (N := some 170) (v := ?_) (a' := ?_) #[true, true, true, true, true, true, true, true, false, false, true, false, false, false, false, false, false, false, false, false, false, false, false, false, false, false, false, false, false, false, false, false, false, false, false, false, false, false, false, false, false, false] rfl rfl (take_ofW HT_.out HW_.out (by kernel_rfl)) (fun _ _ _ h => h) (Or.inl ⟨by rfl, ?_⟩) hHeld ?_ ?_; rotate_left; (rintro w' ⟨s0, s1, s2, s3, s4, s5, s6, s7⟩; go_simp; with_reducible rfl); rotate_left; (simp only [Act.put, sI_, s0_, sS_, i64_w, i32_w]; rfl)
                        refine pure_ (i := 8) (N := some 172) (v := ?_) (a' := ?_) #[true, true, true, true, true, true, true, true, true, false, true, false, false, false, false, false, false, false, false, false, false, false, false, false, false, false, false, false, false, false, false, false, false, false, false, false, false, false, false, false, false, false] rfl rfl (any_of HT_.out (by kernel_rfl)) (fun _ _ _ h => h) (Or.inl ⟨by rfl, ?_⟩) ?_ ?_; rotate_left; (intro w'; go_simp; with_reducible rfl); rotate_left; (simp only [Act.put, sI_, s0_, sS_, i64_w, i32_w]; rfl)
                        refine take_ (i := 9) (N := some 173) (v := ?_) (a' := ?_) (bA 11 42) rfl rfl (take_ofW HT_.out HW_.out (by kernel_rfl)) (fun _ _ _ h => h) (Or.inl ⟨by rfl, ?_⟩) hHeld ?_ ?_; rotate_left; (rintro w' ⟨s0, s1, s2, s3, s4, s5, s6, s7⟩; go_simp; with_reducible rfl); rotate_left; (simp only [Act.put, sI_, s0_, sS_, i64_w, i32_w]; rfl)
                        refine pure_ (i := 11) (N := some 175) (v := ?_) (a' := ?_) (bA 12 42) rfl rfl (any_of HT_.out (by kernel_rfl)) (fun _ _ _ h => h) (Or.inl ⟨by rfl, ?_⟩) ?_ ?_; rotate_left; (intro w'; go_simp; with_reducible rfl); rotate_left; (simp only [Act.put, sI_, s0_, sS_, i64_w, i32_w]; rfl)
                        refine pure_ (i := 12) (N := some 176) (v := ?_) (a' := ?_) (bA 13 42) rfl rfl (any_of HT_.out (by kernel_rfl)) (fun _ _ _ h => h) (Or.inl ⟨by rfl, ?_⟩) ?_ ?_; rotate_left; (intro w'; go_simp; with_reducible rfl); rotate_left; (simp only [Act.put, sI_, s0_, sS_, i64_w, i32_w]; rfl)
                        refine pure_ (i := 13) (N := some 177) (v := ?_) (a' := ?_) (bA 14 42) rfl rfl (any_of HT_.out (by kernel_rfl)) (fun _ _ _ h => h) (Or.inl ⟨by rfl, ?_⟩) ?_ ?_; rotate_left; (intro w'; go_simp; with_reducible rfl); rotate_left; (simp only [Act.put, sI_, s0_, sS_, i64_w, i32_w]; rfl)
                        refine pure_ (i := 14) (N := some 178) (v := ?_) (a' := ?_) (bA 15 42) rfl rfl (any_of HT_.out (by kernel_rfl)) (fun _ _ _ h => h) (Or.inl ⟨by rfl, ?_⟩) ?_ ?_; rotate_left; (intro w'; go_simp; with_reducible rfl); rotate_left; (simp only [Act.put, sI_, s0_, sS_, i64_w, i32_w]; rfl)
                        refine pure_ (i := 15) (N := some 179) (v := ?_) (a' := ?_) (bA 16 42) rfl rfl (any_of HT_.out (by kernel_rfl)) (fun _ _ _ h => h) (Or.inl ⟨by rfl, ?_⟩) ?_ ?_; rotate_left; (intro w'; go_simp; with_reducible rfl); rotate_left; (simp only [Act.put, sI_, s0_, sS_, i64_w, i32_w]; rfl)
                        refine pure_ (i := 16) (N := some 180) (v := ?_) (a' := ?_) (bA 17 42) rfl rfl (any_of HT_.out (by kernel_rfl)) (fun _ _ _ h => h) (Or.inl ⟨by rfl, ?_⟩) ?_ ?_; rotate_left; (intro w'; go_simp; with_reducible rfl); rotate_left; (simp only [Act.put, sI_, s0_, sS_, i64_w, i32_w]; rfl)
                        refine pure_ (i := 17) (N := some 181) (v := ?_) (a' := ?_) (bA 18 42) rfl rfl (any_of HT_.out (by kernel_rfl)) (fun _ _ _ h => h) (Or.inl ⟨by rfl, ?_⟩) ?_ ?_; rotate_left; (intro w'; go_simp; with_reducible rfl); rotate_left; (simp only [Act.put, sI_, s0_, sS_, i64_w, i32_w]; rfl)
                        refine pure_ (i := 18) (N := some 182) (v := ?_) (a' := ?_) (bA 19 42) rfl rfl (any_of HT_.out (by kernel_rfl)) (fun _ _ _ h => h) (Or.inl ⟨by rfl, ?_⟩) ?_ ?_; rotate_left; (intro w'; go_simp; with_reducible rfl); rotate_left; (simp only [Act.put, sI_, s0_, sS_, i64_w, i32_w]; rfl)
                        refine pure_ (i := 19) (N := some 183) (v := ?_) (a' := ?_) (bA 20 42) rfl rfl (any_of HT_.out (by kernel_rfl)) (fun _ _ _ h => h) (Or.inl ⟨by rfl, ?_⟩) ?_ ?_; rotate_left; (intro w'; go_simp; with_reducible rfl); rotate_left; (simp only [Act.put, sI_, s0_, sS_, i64_w, i32_w]; rfl)
                        refine pure_ (i := 20) (N := some 184) (v := undef) (a' := ?_) (bA 21 42) rfl rfl (any_of HT_.out (by kernel_rfl)) (fun _ _ _ h => h) (Or.inr ⟨by rfl, rfl⟩) ?_ ?_; rotate_left; (simp only [Act.put, sI_, s0_, sS_, i64_w, i32_w]; rfl)
                        refine pure_ (i := 21) (N := some 185) (v := undef) (a' := ?_) (bA 22 42) rfl rfl (any_of HT_.out (by kernel_rfl)) (fun _ _ _ h => h) (Or.inr ⟨by rfl, rfl⟩) ?_ ?_; rotate_left; (simp only [Act.put, sI_, s0_, sS_, i64_w, i32_w]; rfl)
                        refine pure_ (i := 22) (N := some 186) (v := undef) (a' := ?_) (bA 23 42) rfl rfl (any_of HT_.out (by kernel_rfl)) (fun _ _ _ h => h) (Or.inr ⟨by rfl, rfl⟩) ?_ ?_; rotate_left; (simp only [Act.put, sI_, s0_, sS_, i64_w, i32_w]; rfl)
                        refine pure_ (i := 23) (N := some 187) (v := undef) (a' := ?_) (bA 24 42) rfl rfl (any_of HT_.out (by kernel_rfl)) (fun _ _ _ h => h) (Or.inr ⟨by rfl, rfl⟩) ?_ ?_; rotate_left; (simp only [Act.put, sI_, s0_, sS_, i64_w, i32_w]; rfl)
                        refine pure_ (i := 24) (N := some 188) (v := undef) (a' := ?_) (bA 25 42) rfl rfl (any_of HT_.out (by kernel_rfl)) (fun _ _ _ h => h) (Or.inr ⟨by rfl, rfl⟩) ?_ ?_; rotate_left; (simp only [Act.put, sI_, s0_, sS_, i64_w, i32_w]; rfl)
                        refine pure_ (i := 25) (N := some 189) (v := undef) (a' := ?_) (bA 26 42) rfl rfl (any_of HT_.out (by kernel_rfl)) (fun _ _ _ h => h) (Or.inr ⟨by rfl, rfl⟩) ?_ ?_; rotate_left; (simp only [Act.put, sI_, s0_, sS_, i64_w, i32_w]; rfl)
                        refine pure_ (i := 26) (N := some 190) (v := undef) (a' := ?_) (bA 27 42) rfl rfl (any_of HT_.out (by kernel_rfl)) (fun _ _ _ h => h) (Or.inr ⟨by rfl, rfl⟩) ?_ ?_; rotate_left; (simp only [Act.put, sI_, s0_, sS_, i64_w, i32_w]; rfl)
                        refine pure_ (i := 27) (N := some 191) (v := undef) (a' := ?_) (bA 28 42) rfl rfl (any_of HT_.out (by kernel_rfl)) (fun _ _ _ h => h) (Or.inr ⟨by rfl, rfl⟩) ?_ ?_; rotate_left; (simp only [Act.put, sI_, s0_, sS_, i64_w, i32_w]; rfl)
                        refine pure_ (i := 28) (N := some 192) (v := undef) (a' := ?_) (bA 29 42) rfl rfl (any_of HT_.out (by kernel_rfl)) (fun _ _ _ h => h) (Or.inr ⟨by rfl, rfl⟩) ?_ ?_; rotate_left; (simp only [Act.put, sI_, s0_, sS_, i64_w, i32_w]; rfl)
                        refine pure_ (i := 29) (N := some 193) (v := undef) (a' := ?_) (bA 30 42) rfl rfl (any_of HT_.out (by kernel_rfl)) (fun _ _ _ h => h) (Or.inr ⟨by rfl, rfl⟩) ?_ ?_; rotate_left; (simp only [Act.put, sI_, s0_, sS_, i64_w, i32_w]; rfl)
                        refine pure_ (i := 30) (N := some 194) (v := undef) (a' := ?_) (bA 31 42) rfl rfl (any_of HT_.out (by kernel_rfl)) (fun _ _ _ h => h) (Or.inr ⟨by rfl, rfl⟩) ?_ ?_; rotate_left; (simp only [Act.put, sI_, s0_, sS_, i64_w, i32_w]; rfl)
                        refine pure_ (i := 31) (N := some 195) (v := undef) (a' := ?_) (bA 32 42) rfl rfl (any_of HT_.out (by kernel_rfl)) (fun _ _ _ h => h) (Or.inr ⟨by rfl, rfl⟩) ?_ ?_; rotate_left; (simp only [Act.put, sI_, s0_, sS_, i64_w, i32_w]; rfl)
                        refine pure_ (i := 32) (N := some 196) (v := undef) (a' := ?_) (bA 33 42) rfl rfl (any_of HT_.out (by kernel_rfl)) (fun _ _ _ h => h) (Or.inr ⟨by rfl, rfl⟩) ?_ ?_; rotate_left; (simp only [Act.put, sI_, s0_, sS_, i64_w, i32_w]; rfl)
                        refine pure_ (i := 33) (N := some 197) (v := undef) (a' := ?_) (bA 34 42) rfl rfl (any_of HT_.out (by kernel_rfl)) (fun _ _ _ h => h) (Or.inr ⟨by rfl, rfl⟩) ?_ ?_; rotate_left; (simp only [Act.put, sI_, s0_, sS_, i64_w, i32_w]; rfl)
                        refine pure_ (i := 34) (N := some 198) (v := undef) (a' := ?_) (bA 35 42) rfl rfl (any_of HT_.out (by kernel_rfl)) (fun _ _ _ h => h) (Or.inr ⟨by rfl, rfl⟩) ?_ ?_; rotate_left; (simp only [Act.put, sI_, s0_, sS_, i64_w, i32_w]; rfl)
                        refine pure_ (i := 35) (N := some 199) (v := undef) (a' := ?_) (bA 36 42) rfl rfl (any_of HT_.out (by kernel_rfl)) (fun _ _ _ h => h) (Or.inr ⟨by rfl, rfl⟩) ?_ ?_; rotate_left; (simp only [Act.put, sI_, s0_, sS_, i64_w, i32_w]; rfl)
                        refine pure_ (i := 36) (N := some 200) (v := undef) (a' := ?_) (bA 37 42) rfl rfl (any_of HT_.out (by kernel_rfl)) (fun _ _ _ h => h) (Or.inr ⟨by rfl, rfl⟩) ?_ ?_; rotate_left; (simp only [Act.put, sI_, s0_, sS_, i64_w, i32_w]; rfl)
                        refine pure_ (i := 37) (N := some 201) (v := undef) (a' := ?_) (bA 38 42) rfl rfl (any_of HT_.out (by kernel_rfl)) (fun _ _ _ h => h) (Or.inr ⟨by rfl, rfl⟩) ?_ ?_; rotate_left; (simp only [Act.put, sI_, s0_, sS_, i64_w, i32_w]; rfl)
                        refine pure_ (i := 38) (N := some 202) (v := undef) (a' := ?_) (bA 39 42) rfl rfl (any_of HT_.out (by kernel_rfl)) (fun _ _ _ h => h) (Or.inr ⟨by rfl, rfl⟩) ?_ ?_; rotate_left; (simp only [Act.put, sI_, s0_, sS_, i64_w, i32_w]; rfl)
                        refine pure_ (i := 39) (N := some 203) (v := undef) (a' := ?_) (bA 40 42) rfl rfl (any_of HT_.out (by kernel_rfl)) (fun _ _ _ h => h) (Or.inr ⟨by rfl, rfl⟩) ?_ ?_; rotate_left; (simp only [Act.put, sI_, s0_, sS_, i64_w, i32_w]; rfl)
                        refine pure_ (i := 40) (N := some 204) (v := undef) (a' := ?_) (bA 41 42) rfl rfl (any_of HT_.out (by kernel_rfl)) (fun _ _ _ h => h) (Or.inr ⟨by rfl, rfl⟩) ?_ ?_; rotate_left; (simp only [Act.put, sI_, s0_, sS_, i64_w, i32_w]; rfl)
                        refine pure_ (i := 41) (N := some 205) (v := ?_) (a' := ?_) (bA 42 42) rfl rfl (any_of HT_.out (by kernel_rfl)) (fun _ _ _ h => h) (Or.inl ⟨by rfl, ?_⟩) ?_ ?_; rotate_left; (intro w'; go_simp; with_reducible rfl); rotate_left; (simp only [Act.put, sI_, s0_, sS_, i64_w, i32_w]; rfl)
                        refine done_ (done_of HT_.out (by kernel_rfl)) ?_
                        try go_wp2
                        go_meet
                        case rel => exact ⟨_, (true), tS_, H', ⟨by have := HJ17.out; have := HJ31.out; have := HJ56.out; have := HK4.out; have := HK5.out; first | omega | exact Nat.le_refl _⟩, ⟨by (with_reducible repeat (first | apply Kd.V_alloc | apply Kd.V_drewN | apply Kd.V_drew)); exact HO_4.out⟩, ⟨dR_ HO_12⟩, ⟨dR_ HO_277002⟩, ⟨dB_ BK260⟩, ⟨dB_ BK276⟩, ⟨dL2_ HB GE260 GE276⟩⟩
                       ·rw [if_neg c89] at H
                        have c89b0 : decide ((t271.length : Int) ≤ x19_5) = false := decide_eq_false c89
                        clear c89
                        by_cases c92 : 0 ≤ x19_5
                        ·rw [if_pos c92] at H
                         have c92b0 : decide (0 ≤ x19_5) = true := decide_eq_true c92
                         clear c92
                         by_cases c93 : x19_5 < (t271.length : Int)
                         ·rw [if_pos c93] at H
                          have c93b0 : decide (x19_5 < (t271.length : Int)) = true := decide_eq_true c93
                          clear c93
                          by_cases c94 : (wrap64 (a0_0 + 1)) = 0
                          ·rw [if_pos c94] at H
                           exact absurd H (by simp)
                          ·rw [if_neg c94] at H
                           have c94b0 : ((wrap64 (a0_0 + 1)) == 0) = false := beq_eq_false_iff_ne.mpr c94
                           have c94b1 : ((wrap64 (a0_0 + 1)) != 0) = true := bne_iff_ne.mpr c94
                           have H' := Aside0.mk H
                           clear H
                           try go_wp2
                           replace HO_4 := Aside0.mk (Kd.V_drew HO_4.out)
                           replace HO_12 := Aside0.mk (Kd.R_drew HO_12.out)
                           replace HO_277002 := Aside0.mk (Kd.R_drew HO_277002.out)
                           replace BK260 := Aside0.mk (blk_drew BK260.out)
                           replace BK276 := Aside0.mk (blk_drew BK276.out)
                           replace HB := Aside0.mk (below_drew1 HB.out)
                           have p288 : 0 ≤ (x150_5 : Int) := of_decide_eq_true tW_
                           have q288 : x150_5 < (t268.length : Int) := of_decide_eq_true tW_
                           obtain ⟨ad288, e288, hx288_0⟩ := Kd.at_int (Kd.R_reads' HO_277002.out).2.2 x150_5 p288 q288
                           obtain rfl : ad286 = ad288 := (by injection e288)
                           replace p288 := eq_true p288
                           replace q288 := eq_true q288
                           have p289 : 0 ≤ (x150_5 : Int) := of_decide_eq_true tW_
                           have q289 : x150_5 < (l0_2.length : Int) := of_decide_eq_true tW_
                           obtain ⟨ad289, e289, hx289_0⟩ := Kd.at_int HR0_2.out x150_5 p289 q289
                           have hw289_0 := hx289_0
                           obtain rfl : ad287 = ad289 := (by injection e289)
                           replace hx289_0 := bc_ HB hx289_0
                           replace p289 := eq_true p289
                           replace q289 := eq_true q289
                           obtain ⟨Ao96, co96, eo96⟩ := Kd.R_slice HO_12.out
                           (first | subst eo96 | (injection eo96 with f1_ f2_ f3_; have f4_ := f1_.symm; have f5_ := f3_.symm; clear f1_ f2_ f3_; subst f4_; subst f5_))
                           have p290 : 0 ≤ (x19_5 : Int) := of_decide_eq_true tW_
                           have q290 : x19_5 < (t271.length : Int) := of_decide_eq_true tW_
                           obtain ⟨ad290, e290, hx290_0, hx290_1, hx290_2⟩ := at_T36 (Kd.R_reads' HO_12.out).2.2 x19_5 p290 q290
                           cases e290
                           replace p290 := eq_true p290
                           replace q290 := eq_true q290
                           have p291 : 0 ≤ (x150_5 : Int) := of_decide_eq_true tW_
                           have q291 : x150_5 < (t268.length : Int) := of_decide_eq_true tW_
                           obtain ⟨ad291, e291, hx291_0⟩ := Kd.at_int (Kd.R_reads' HO_277002.out).2.2 x150_5 p291 q291
                           obtain rfl : ad286 = ad291 := (by injection e291)
                           replace p291 := eq_true p291
                           replace q291 := eq_true q291
                           refine start_ (n := 42) (S := fun w' => w'.cell? ⟨gb276, 0, none⟩ = some (.int .i64 t266) ∧ w'.cell? ⟨gb276, 1, none⟩ = some (.int .i64 t267) ∧ w'.cell? ⟨gb276, 2, none⟩ = some (.slice (some ad286) t268.length co30) ∧ w'.cell? ⟨gb260, 0, none⟩ = some (.int .i64 a0_0) ∧ w'.cell? ⟨gb260, 1, none⟩ = some (.int .i64 a0_1) ∧ w'.cell? ⟨gb260, 2, none⟩ = some (.slice (some ad287) l0_2.length c0_2) ∧ w'.cell? (ad286.add (x150_5).toNat) = some (.int .i64 (rd t268 x150_5)) ∧ w'.cell? (ad287.add (x150_5).toNat) = some (.int .i64 (rd l0_2 x150_5)) ∧ w'.cell? (ad290.add ((x19_5).toNat * 3)) = some (.int .i64 ((rd_T36 t271 x19_5).f0)) ∧ w'.cell? ⟨(ad290.add ((x19_5).toNat * 3)).block, (ad290.add ((x19_5).toNat * 3)).off + 1, none⟩ = some (.int .i64 ((rd_T36 t271 x19_5).f1)) ∧ w'.cell? ⟨(ad290.add ((x19_5).toNat * 3)).block, (ad290.add ((x19_5).toNat * 3)).off + 2, none⟩ = some (.int .i64 ((rd_T36 t271 x19_5).f2)) ∧ w'.cell? (ad286.add (x150_5).toNat) = some (.int .i64 (rd t268 x150_5))) (ds := []) #[false, false, false, false, false, false, false, false, false, false, false, false, false, false, false, false, false, false, false, false, false, false, false, false, false, false, false, false, false, false, false, false, false, false, false, false, false, false, false, false, false, false] (by kernel_rfl) rfl rfl ⟨(blk_cell BK276.out 0).trans rfl, (blk_cell BK276.out 1).trans rfl, (blk_cell BK276.out 2).trans rfl, (blk_cell BK260.out 0).trans rfl, (blk_cell BK260.out 1).trans rfl, (blk_cell BK260.out 2).trans rfl, hx288_0, ((HB.out.cell (World.block_lt_of_cell? w _ hw289_0)).trans hw289_0), hx290_0, hx290_1, hx290_2, hx291_0⟩ (fun hHeld => ?_); refine with_tabW hinterlandlaw02_LandShiftsLeast.tab23 hinterlandlaw02_LandShiftsLeast.bits23 (fun HT_ HW_ => ?_)
                           generalize w85.drew = w95 at HO_4 HO_12 HO_277002 BK260 BK276 HB hx288_0 hx289_0 hx290_0 hx290_1 hx290_2 hx291_0 hHeld ⊢
                           refine pure_ (i := 0) (N := some 164) (v := ?_) (a' := ?_) (bA 1 42) rfl rfl (any_of HT_.out (by kernel_rfl)) (fun _ _ _ h => h) (Or.inl ⟨by rfl, ?_⟩) ?_ ?_; rotate_left; (intro w'; go_simp; with_reducible rfl); rotate_left; (simp only [Act.put, sI_, s0_, sS_, i64_w, i32_w]; rfl)
                           refine pure_ (i := 2) (N := some 166) (v := ?_) (a' := ?_) #[true, false, true, false, false, false, false, false, false, false, false, false, false, false, false, false, false, false, false, false, false, false, false, false, false, false, false, false, false, false, false, false, false, false, false, false, false, false, false, false, false, false] rfl rfl (any_of HT_.out (by kernel_rfl)) (fun _ _ _ h => h) (Or.inl ⟨by rfl, ?_⟩) ?_ ?_; rotate_left; (intro w'; go_simp; with_reducible rfl); rotate_left; (simp only [Act.put, sI_, s0_, sS_, i64_w, i32_w]; rfl)
                           refine pure_ (i := 5) (N := some 169) (v := ?_) (a' := ?_) #[true, false, true, false, false, true, false, false, false, false, false, false, false, false, false, false, false, false, false, false, false, false, false, false, false, false, false, false, false, false, false, false, false, false, false, false, false, false, false, false, false, false] rfl rfl (any_of HT_.out (by kernel_rfl)) (fun _ _ _ h => h) (Or.inl ⟨by rfl, ?_⟩) ?_ ?_; rotate_left; (intro w'; go_simp; with_reducible rfl); rotate_left; (simp only [Act.put, sI_, s0_, sS_, i64_w, i32_w]; rfl)
                           refine pure_ (i := 7) (N := some 171) (v := ?_) (a' := ?_) #[true, false, true, false, false, true, false, true, false, false, false, false, false, false, false, false, false, false, false, false, false, false, false, false, false, false, false, false, false, false, false, false, false, false, false, false, false, false, false, false, false, false] rfl rfl (any_of HT_.out (by kernel_rfl)) (fun _ _ _ h => h) (Or.inl ⟨by rfl, ?_⟩) ?_ ?_; rotate_left; (intro w'; go_simp; with_reducible rfl); rotate_left; (simp only [Act.put, sI_, s0_, sS_, i64_w, i32_w]; rfl)
                           refine pure_ (i := 10) (N := some 174) (v := ?_) (a' := ?_) #[true, false, true, false, false, true, false, true, false, false, true, false, false, false, false, false, false, false, false, false, false, false, false, false, false, false, false, false, false, false, false, false, false, false, false, false, false, false, false, false, false, false] rfl rfl (any_of HT_.out (by kernel_rfl)) (fun _ _ _ h => h) (Or.inl ⟨by rfl, ?_⟩) ?_ ?_; rotate_left; (intro w'; go_simp; with_reducible rfl); rotate_left; (simp only [Act.put, sI_, s0_, sS_, i64_w, i32_w]; rfl)
                           refine take_ (i := 1) (N := some 165) (v := ?_) (a' := ?_) #[true, true, true, false, false, true, false, true, false, false, true, false, false, false, false, false, false, false, false, false, false, false, false, false, false, false, false, false, false, false, false, false, false, false, false, false, false, false, false, false, false, false] rfl rfl (take_ofW HT_.out HW_.out (by kernel_rfl)) (fun _ _ _ h => h) (Or.inl ⟨by rfl, ?_⟩) hHeld ?_ ?_; rotate_left; (rintro w' ⟨s0, s1, s2, s3, s4, s5, s6, s7, s8, s9, s10, s11⟩; go_simp; with_reducible rfl); rotate_left; (simp only [Act.put, sI_, s0_, sS_, i64_w, i32_w]; rfl)
                           refine pure_ (i := 3) (N := some 167) (v := ?_) (a' := ?_) #[true, true, true, true, false, true, false, true, false, false, true, false, false, false, false, false, false, false, false, false, false, false, false, false, false, false, false, false, false, false, false, false, false, false, false, false, false, false, false, false, false, false] rfl rfl (any_of HT_.out (by kernel_rfl)) (fun _ _ _ h => h) (Or.inl ⟨by rfl, ?_⟩) ?_ ?_; rotate_left; (intro w'; go_simp; with_reducible rfl); rotate_left; (simp only [Act.put, sI_, s0_, sS_, i64_w, i32_w]; rfl)
                           refine take_ (i := 4) (N := some 168) (v := ?_) (a' := ?_) #[true, true, true, true, true, true, false, true, false, false, true, false, false, false, false, false, false, false, false, false, false, false, false, false, false, false, false, false, false, false, false, false, false, false, false, false, false, false, false, false, false, false] rfl rfl (take_ofW HT_.out HW_.out (by kernel_rfl)) (fun _ _ _ h => h) (Or.inl ⟨by rfl, ?_⟩) hHeld ?_ ?_; rotate_left; (rintro w' ⟨s0, s1, s2, s3, s4, s5, s6, s7, s8, s9, s10, s11⟩; go_simp; with_reducible rfl); rotate_left; (simp only [Act.put, sI_, s0_, sS_, i64_w, i32_w]; rfl)
                           refine take_ (i := 6) (N := some 170) (v := ?_) (a' := ?_) #[true, true, true, true, true, true, true, true, false, false, true, false, false, false, false, false, false, false, false, false, false, false, false, false, false, false, false, false, false, false, false, false, false, false, false, false, false, false, false, false, false, false] rfl rfl (take_ofW HT_.out HW_.out (by kernel_rfl)) (fun _ _ _ h => h) (Or.inl ⟨by rfl, ?_⟩) hHeld ?_ ?_; rotate_left; (rintro w' ⟨s0, s1, s2, s3, s4, s5, s6, s7, s8, s9, s10, s11⟩; go_simp; with_reducible rfl); rotate_left; (simp only [Act.put, sI_, s0_, sS_, i64_w, i32_w]; rfl)
                           refine pure_ (i := 8) (N := some 172) (v := ?_) (a' := ?_) #[true, true, true, true, true, true, true, true, true, false, true, false, false, false, false, false, false, false, false, false, false, false, false, false, false, false, false, false, false, false, false, false, false, false, false, false, false, false, false, false, false, false] rfl rfl (any_of HT_.out (by kernel_rfl)) (fun _ _ _ h => h) (Or.inl ⟨by rfl, ?_⟩) ?_ ?_; rotate_left; (intro w'; go_simp; with_reducible rfl); rotate_left; (simp only [Act.put, sI_, s0_, sS_, i64_w, i32_w]; rfl)
                           refine take_ (i := 9) (N := some 173) (v := ?_) (a' := ?_) (bA 11 42) rfl rfl (take_ofW HT_.out HW_.out (by kernel_rfl)) (fun _ _ _ h => h) (Or.inl ⟨by rfl, ?_⟩) hHeld ?_ ?_; rotate_left; (rintro w' ⟨s0, s1, s2, s3, s4, s5, s6, s7, s8, s9, s10, s11⟩; go_simp; with_reducible rfl); rotate_left; (simp only [Act.put, sI_, s0_, sS_, i64_w, i32_w]; rfl)
                           refine pure_ (i := 11) (N := some 175) (v := ?_) (a' := ?_) (bA 12 42) rfl rfl (any_of HT_.out (by kernel_rfl)) (fun _ _ _ h => h) (Or.inl ⟨by rfl, ?_⟩) ?_ ?_; rotate_left; (intro w'; go_simp; with_reducible rfl); rotate_left; (simp only [Act.put, sI_, s0_, sS_, i64_w, i32_w]; rfl)
                           refine pure_ (i := 12) (N := some 176) (v := ?_) (a' := ?_) (bA 13 42) rfl rfl (any_of HT_.out (by kernel_rfl)) (fun _ _ _ h => h) (Or.inl ⟨by rfl, ?_⟩) ?_ ?_; rotate_left; (intro w'; go_simp; with_reducible rfl); rotate_left; (simp only [Act.put, sI_, s0_, sS_, i64_w, i32_w]; rfl)
                           refine pure_ (i := 13) (N := some 177) (v := ?_) (a' := ?_) (bA 14 42) rfl rfl (any_of HT_.out (by kernel_rfl)) (fun _ _ _ h => h) (Or.inl ⟨by rfl, ?_⟩) ?_ ?_; rotate_left; (intro w'; go_simp; with_reducible rfl); rotate_left; (simp only [Act.put, sI_, s0_, sS_, i64_w, i32_w]; rfl)
                           refine pure_ (i := 14) (N := some 178) (v := ?_) (a' := ?_) (bA 15 42) rfl rfl (any_of HT_.out (by kernel_rfl)) (fun _ _ _ h => h) (Or.inl ⟨by rfl, ?_⟩) ?_ ?_; rotate_left; (intro w'; go_simp; with_reducible rfl); rotate_left; (simp only [Act.put, sI_, s0_, sS_, i64_w, i32_w]; rfl)
                           refine pure_ (i := 15) (N := some 179) (v := ?_) (a' := ?_) (bA 16 42) rfl rfl (any_of HT_.out (by kernel_rfl)) (fun _ _ _ h => h) (Or.inl ⟨by rfl, ?_⟩) ?_ ?_; rotate_left; (intro w'; go_simp; with_reducible rfl); rotate_left; (simp only [Act.put, sI_, s0_, sS_, i64_w, i32_w]; rfl)
                           refine pure_ (i := 16) (N := some 180) (v := ?_) (a' := ?_) (bA 17 42) rfl rfl (any_of HT_.out (by kernel_rfl)) (fun _ _ _ h => h) (Or.inl ⟨by rfl, ?_⟩) ?_ ?_; rotate_left; (intro w'; go_simp; with_reducible rfl); rotate_left; (simp only [Act.put, sI_, s0_, sS_, i64_w, i32_w]; rfl)
                           refine pure_ (i := 17) (N := some 181) (v := ?_) (a' := ?_) (bA 18 42) rfl rfl (any_of HT_.out (by kernel_rfl)) (fun _ _ _ h => h) (Or.inl ⟨by rfl, ?_⟩) ?_ ?_; rotate_left; (intro w'; go_simp; with_reducible rfl); rotate_left; (simp only [Act.put, sI_, s0_, sS_, i64_w, i32_w]; rfl)
                           refine pure_ (i := 18) (N := some 182) (v := ?_) (a' := ?_) (bA 19 42) rfl rfl (any_of HT_.out (by kernel_rfl)) (fun _ _ _ h => h) (Or.inl ⟨by rfl, ?_⟩) ?_ ?_; rotate_left; (intro w'; go_simp; with_reducible rfl); rotate_left; (simp only [Act.put, sI_, s0_, sS_, i64_w, i32_w]; rfl)
                           refine pure_ (i := 19) (N := some 183) (v := ?_) (a' := ?_) (bA 20 42) rfl rfl (any_of HT_.out (by kernel_rfl)) (fun _ _ _ h => h) (Or.inl ⟨by rfl, ?_⟩) ?_ ?_; rotate_left; (intro w'; go_simp; with_reducible rfl); rotate_left; (simp only [Act.put, sI_, s0_, sS_, i64_w, i32_w]; rfl)
                           refine pure_ (i := 20) (N := some 184) (v := ?_) (a' := ?_) (bA 21 42) rfl rfl (any_of HT_.out (by kernel_rfl)) (fun _ _ _ h => h) (Or.inl ⟨by rfl, ?_⟩) ?_ ?_; rotate_left; (intro w'; go_simp; with_reducible rfl); rotate_left; (simp only [Act.put, sI_, s0_, sS_, i64_w, i32_w]; rfl)
                           refine pure_ (i := 21) (N := some 185) (v := ?_) (a' := ?_) (bA 22 42) rfl rfl (any_of HT_.out (by kernel_rfl)) (fun _ _ _ h => h) (Or.inl ⟨by rfl, ?_⟩) ?_ ?_; rotate_left; (intro w'; go_simp; with_reducible rfl); rotate_left; (simp only [Act.put, sI_, s0_, sS_, i64_w, i32_w]; rfl)
                           refine pure_ (i := 22) (N := some 186) (v := ?_) (a' := ?_) (bA 23 42) rfl rfl (any_of HT_.out (by kernel_rfl)) (fun _ _ _ h => h) (Or.inl ⟨by rfl, ?_⟩) ?_ ?_; rotate_left; (intro w'; go_simp; with_reducible rfl); rotate_left; (simp only [Act.put, sI_, s0_, sS_, i64_w, i32_w]; rfl)
                           refine pure_ (i := 24) (N := some 188) (v := ?_) (a' := ?_) #[true, true, true, true, true, true, true, true, true, true, true, true, true, true, true, true, true, true, true, true, true, true, true, false, true, false, false, false, false, false, false, false, false, false, false, false, false, false, false, false, false, false] rfl rfl (any_of HT_.out (by kernel_rfl)) (fun _ _ _ h => h) (Or.inl ⟨by rfl, ?_⟩) ?_ ?_; rotate_left; (intro w'; go_simp; with_reducible rfl); rotate_left; (simp only [Act.put, sI_, s0_, sS_, i64_w, i32_w]; rfl)
                           refine pure_ (i := 25) (N := some 189) (v := ?_) (a' := ?_) #[true, true, true, true, true, true, true, true, true, true, true, true, true, true, true, true, true, true, true, true, true, true, true, false, true, true, false, false, false, false, false, false, false, false, false, false, false, false, false, false, false, false] rfl rfl (any_of HT_.out (by kernel_rfl)) (fun _ _ _ h => h) (Or.inl ⟨by rfl, ?_⟩) ?_ ?_; rotate_left; (intro w'; go_simp; with_reducible rfl); rotate_left; (simp only [Act.put, sI_, s0_, sS_, i64_w, i32_w]; rfl)
                           refine pure_ (i := 29) (N := some 193) (v := ?_) (a' := ?_) #[true, true, true, true, true, true, true, true, true, true, true, true, true, true, true, true, true, true, true, true, true, true, true, false, true, true, false, false, false, true, false, false, false, false, false, false, false, false, false, false, false, false] rfl rfl (any_of HT_.out (by kernel_rfl)) (fun _ _ _ h => h) (Or.inl ⟨by rfl, ?_⟩) ?_ ?_; rotate_left; (intro w'; go_simp; with_reducible rfl); rotate_left; (simp only [Act.put, sI_, s0_, sS_, i64_w, i32_w]; rfl)
                           refine pure_ (i := 30) (N := some 194) (v := ?_) (a' := ?_) #[true, true, true, true, true, true, true, true, true, true, true, true, true, true, true, true, true, true, true, true, true, true, true, false, true, true, false, false, false, true, true, false, false, false, false, false, false, false, false, false, false, false] rfl rfl (any_of HT_.out (by kernel_rfl)) (fun _ _ _ h => h) (Or.inl ⟨by rfl, ?_⟩) ?_ ?_; rotate_left; (intro w'; go_simp; with_reducible rfl); rotate_left; (simp only [Act.put, sI_, s0_, sS_, i64_w, i32_w]; rfl)
                           refine pure_ (i := 34) (N := some 198) (v := ?_) (a' := ?_) #[true, true, true, true, true, true, true, true, true, true, true, true, true, true, true, true, true, true, true, true, true, true, true, false, true, true, false, false, false, true, true, false, false, false, true, false, false, false, false, false, false, false] rfl rfl (any_of HT_.out (by kernel_rfl)) (fun _ _ _ h => h) (Or.inl ⟨by rfl, ?_⟩) ?_ ?_; rotate_left; (intro w'; go_simp; with_reducible rfl); rotate_left; (simp only [Act.put, sI_, s0_, sS_, i64_w, i32_w]; rfl)
                           refine pure_ (i := 36) (N := some 200) (v := ?_) (a' := ?_) #[true, true, true, true, true, true, true, true, true, true, true, true, true, true, true, true, true, true, true, true, true, true, true, false, true, true, false, false, false, true, true, false, false, false, true, false, true, false, false, false, false, false] rfl rfl (any_of HT_.out (by kernel_rfl)) (fun _ _ _ h => h) (Or.inl ⟨by rfl, ?_⟩) ?_ ?_; rotate_left; (intro w'; go_simp; with_reducible rfl); rotate_left; (simp only [Act.put, sI_, s0_, sS_, i64_w, i32_w]; rfl)
                           refine take_ (i := 23) (N := some 187) (v := ?_) (a' := ?_) #[true, true, true, true, true, true, true, true, true, true, true, true, true, true, true, true, true, true, true, true, true, true, true, true, true, true, false, false, false, true, true, false, false, false, true, false, true, false, false, false, false, false] rfl rfl (take_ofW HT_.out HW_.out (by kernel_rfl)) (fun _ _ _ h => h) (Or.inl ⟨by rfl, ?_⟩) hHeld ?_ ?_; rotate_left; (rintro w' ⟨s0, s1, s2, s3, s4, s5, s6, s7, s8, s9, s10, s11⟩; go_simp; with_reducible rfl); rotate_left; (simp only [Act.put, sI_, s0_, sS_, i64_w, i32_w]; rfl)
                           refine take_ (i := 26) (N := some 190) (v := ?_) (a' := ?_) #[true, true, true, true, true, true, true, true, true, true, true, true, true, true, true, true, true, true, true, true, true, true, true, true, true, true, true, false, false, true, true, false, false, false, true, false, true, false, false, false, false, false] rfl rfl (take_ofW HT_.out HW_.out (by kernel_rfl)) (fun _ _ _ h => h) (Or.inl ⟨by rfl, ?_⟩) hHeld ?_ ?_; rotate_left; (rintro w' ⟨s0, s1, s2, s3, s4, s5, s6, s7, s8, s9, s10, s11⟩; go_simp; with_reducible rfl); rotate_left; (simp only [Act.put, sI_, s0_, sS_, i64_w, i32_w]; rfl)
                           refine pure_ (i := 27) (N := some 191) (v := ?_) (a' := ?_) #[true, true, true, true, true, true, true, true, true, true, true, true, true, true, true, true, true, true, true, true, true, true, true, true, true, true, true, true, false, true, true, false, false, false, true, false, true, false, false, false, false, false] rfl rfl (any_of HT_.out (by kernel_rfl)) (fun _ _ _ h => h) (Or.inl ⟨by rfl, ?_⟩) ?_ ?_; rotate_left; (intro w'; go_simp; with_reducible rfl); rotate_left; (simp only [Act.put, sI_, s0_, sS_, i64_w, i32_w]; rfl)
                           refine pure_ (i := 28) (N := some 192) (v := ?_) (a' := ?_) #[true, true, true, true, true, true, true, true, true, true, true, true, true, true, true, true, true, true, true, true, true, true, true, true, true, true, true, true, true, true, true, false, false, false, true, false, true, false, false, false, false, false] rfl rfl (any_of HT_.out (by kernel_rfl)) (fun _ _ _ h => h) (Or.inl ⟨by rfl, ?_⟩) ?_ ?_; rotate_left; (intro w'; go_simp; with_reducible rfl); rotate_left; (simp only [Act.put, sI_, s0_, sS_, i64_w, i32_w]; rfl)
                           refine take_ (i := 31) (N := some 195) (v := ?_) (a' := ?_) #[true, true, true, true, true, true, true, true, true, true, true, true, true, true, true, true, true, true, true, true, true, true, true, true, true, true, true, true, true, true, true, true, false, false, true, false, true, false, false, false, false, false] rfl rfl (take_ofW HT_.out HW_.out (by kernel_rfl)) (fun _ _ _ h => h) (Or.inl ⟨by rfl, ?_⟩) hHeld ?_ ?_; rotate_left; (rintro w' ⟨s0, s1, s2, s3, s4, s5, s6, s7, s8, s9, s10, s11⟩; go_simp; with_reducible rfl); rotate_left; (simp only [Act.put, sI_, s0_, sS_, i64_w, i32_w]; rfl)
                           refine pure_ (i := 32) (N := some 196) (v := ?_) (a' := ?_) #[true, true, true, true, true, true, true, true, true, true, true, true, true, true, true, true, true, true, true, true, true, true, true, true, true, true, true, true, true, true, true, true, true, false, true, false, true, false, false, false, false, false] rfl rfl (any_of HT_.out (by kernel_rfl)) (fun _ _ _ h => h) (Or.inl ⟨by rfl, ?_⟩) ?_ ?_; rotate_left; (intro w'; go_simp; with_reducible rfl); rotate_left; (simp only [Act.put, sI_, s0_, sS_, i64_w, i32_w]; rfl)
                           refine pure_ (i := 33) (N := some 197) (v := ?_) (a' := ?_) #[true, true, true, true, true, true, true, true, true, true, true, true, true, true, true, true, true, true, true, true, true, true, true, true, true, true, true, true, true, true, true, true, true, true, true, false, true, false, false, false, false, false] rfl rfl (any_of HT_.out (by kernel_rfl)) (fun _ _ _ h => h) (Or.inl ⟨by rfl, ?_⟩) ?_ ?_; rotate_left; (intro w'; go_simp; with_reducible rfl); rotate_left; (simp only [Act.put, sI_, s0_, sS_, i64_w, i32_w]; rfl)
                           refine take_ (i := 35) (N := some 199) (v := ?_) (a' := ?_) (bA 37 42) rfl rfl (take_ofW HT_.out HW_.out (by kernel_rfl)) (fun _ _ _ h => h) (Or.inl ⟨by rfl, ?_⟩) hHeld ?_ ?_; rotate_left; (rintro w' ⟨s0, s1, s2, s3, s4, s5, s6, s7, s8, s9, s10, s11⟩; go_simp; with_reducible rfl); rotate_left; (simp only [Act.put, sI_, s0_, sS_, i64_w, i32_w]; rfl)
                           refine pure_ (i := 37) (N := some 201) (v := ?_) (a' := ?_) (bA 38 42) rfl rfl (any_of HT_.out (by kernel_rfl)) (fun _ _ _ h => h) (Or.inl ⟨by rfl, ?_⟩) ?_ ?_; rotate_left; (intro w'; go_simp; with_reducible rfl); rotate_left; (simp only [Act.put, sI_, s0_, sS_, i64_w, i32_w]; rfl)
                           refine take_ (i := 38) (N := some 202) (v := ?_) (a' := ?_) (bA 39 42) rfl rfl (take_ofW HT_.out HW_.out (by kernel_rfl)) (fun _ _ _ h => h) (Or.inl ⟨by rfl, ?_⟩) hHeld ?_ ?_; rotate_left; (rintro w' ⟨s0, s1, s2, s3, s4, s5, s6, s7, s8, s9, s10, s11⟩; go_simp; with_reducible rfl); rotate_left; (simp only [Act.put, sI_, s0_, sS_, i64_w, i32_w]; rfl)
                           refine pure_ (i := 39) (N := some 203) (v := ?_) (a' := ?_) (bA 40 42) rfl rfl (any_of HT_.out (by kernel_rfl)) (fun _ _ _ h => h) (Or.inl ⟨by rfl, ?_⟩) ?_ ?_; rotate_left; (intro w'; go_simp; with_reducible rfl); rotate_left; (simp only [Act.put, sI_, s0_, sS_, i64_w, i32_w]; rfl)
                           refine pure_ (i := 40) (N := some 204) (v := ?_) (a' := ?_) (bA 41 42) rfl rfl (any_of HT_.out (by kernel_rfl)) (fun _ _ _ h => h) (Or.inl ⟨by rfl, ?_⟩) ?_ ?_; rotate_left; (intro w'; go_simp; with_reducible rfl); rotate_left; (simp only [Act.put, sI_, s0_, sS_, i64_w, i32_w]; rfl)
                           refine pure_ (i := 41) (N := some 205) (v := ?_) (a' := ?_) (bA 42 42) rfl rfl (any_of HT_.out (by kernel_rfl)) (fun _ _ _ h => h) (Or.inl ⟨by rfl, ?_⟩) ?_ ?_; rotate_left; (intro w'; go_simp; with_reducible rfl); rotate_left; (simp only [Act.put, sI_, s0_, sS_, i64_w, i32_w]; rfl)
                           refine done_ (done_of HT_.out (by kernel_rfl)) ?_
                           try go_wp2
                           go_meet
                           case rel => exact ⟨_, ((!(((rd_T36 t271 x19_5).f0) == (Int.tmod x150_5 (wrap64 (a0_0 + 1)))) || (!(((rd_T36 t271 x19_5).f1) == (wrap64 (Int.tdiv x150_5 (wrap64 (a0_0 + 1))))) || (!(((rd_T36 t271 x19_5).f2) == (rd t268 x150_5)))))), tS_, H', ⟨by have := HJ17.out; have := HJ31.out; have := HJ56.out; have := HK4.out; have := HK5.out; first | omega | exact Nat.le_refl _⟩, ⟨by (with_reducible repeat (first | apply Kd.V_alloc | apply Kd.V_drewN | apply Kd.V_drew)); exact HO_4.out⟩, ⟨dR_ HO_12⟩, ⟨dR_ HO_277002⟩, ⟨dB_ BK260⟩, ⟨dB_ BK276⟩, ⟨dL2_ HB GE260 GE276⟩⟩
                         ·rw [if_neg c93] at H
                          exact absurd H (by simp)
                        ·rw [if_neg c92] at H
                         exact absurd H (by simp)
                      ·rw [if_neg c88] at H
                       have c88b0 : ((rd t268 x150_5) == (wrap64 ((rd l0_2 x150_5) + x15_17))) = false := beq_eq_false_iff_ne.mpr c88
                       have c88b1 : ((rd t268 x150_5) != (wrap64 ((rd l0_2 x150_5) + x15_17))) = true := bne_iff_ne.mpr c88
                       (first | rw [c88b0] | (simp only [i64_w, i32_w]; rw [c88b0]) | skip)
                       have H' := Aside0.mk H
                       clear H
                       try go_wp2
                       replace HO_4 := Aside0.mk (Kd.V_drew HO_4.out)
                       replace HO_12 := Aside0.mk (Kd.R_drew HO_12.out)
                       replace HO_277002 := Aside0.mk (Kd.R_drew HO_277002.out)
                       replace BK260 := Aside0.mk (blk_drew BK260.out)
                       replace BK276 := Aside0.mk (blk_drew BK276.out)
                       replace HB := Aside0.mk (below_drew1 HB.out)
                       have p288 : 0 ≤ (x150_5 : Int) := of_decide_eq_true tW_
                       have q288 : x150_5 < (t268.length : Int) := of_decide_eq_true tW_
                       obtain ⟨ad288, e288, hx288_0⟩ := Kd.at_int (Kd.R_reads' HO_277002.out).2.2 x150_5 p288 q288
                       obtain rfl : ad286 = ad288 := (by injection e288)
                       replace p288 := eq_true p288
                       replace q288 := eq_true q288
                       have p289 : 0 ≤ (x150_5 : Int) := of_decide_eq_true tW_
                       have q289 : x150_5 < (l0_2.length : Int) := of_decide_eq_true tW_
                       obtain ⟨ad289, e289, hx289_0⟩ := Kd.at_int HR0_2.out x150_5 p289 q289
                       have hw289_0 := hx289_0
                       obtain rfl : ad287 = ad289 := (by injection e289)
                       replace hx289_0 := bc_ HB hx289_0
                       replace p289 := eq_true p289
                       replace q289 := eq_true q289
                       refine start_ (n := 42) (S := fun w' => w'.cell? ⟨gb276, 0, none⟩ = some (.int .i64 t266) ∧ w'.cell? ⟨gb276, 1, none⟩ = some (.int .i64 t267) ∧ w'.cell? ⟨gb276, 2, none⟩ = some (.slice (some ad286) t268.length co30) ∧ w'.cell? ⟨gb260, 0, none⟩ = some (.int .i64 a0_0) ∧ w'.cell? ⟨gb260, 1, none⟩ = some (.int .i64 a0_1) ∧ w'.cell? ⟨gb260, 2, none⟩ = some (.slice (some ad287) l0_2.length c0_2) ∧ w'.cell? (ad286.add (x150_5).toNat) = some (.int .i64 (rd t268 x150_5)) ∧ w'.cell? (ad287.add (x150_5).toNat) = some (.int .i64 (rd l0_2 x150_5))) (ds := []) #[false, false, false, false, false, false, false, false, false, false, false, false, false, false, false, false, false, false, false, false, false, false, false, false, false, false, false, false, false, false, false, false, false, false, false, false, false, false, false, false, false, false] (by kernel_rfl) rfl rfl ⟨(blk_cell BK276.out 0).trans rfl, (blk_cell BK276.out 1).trans rfl, (blk_cell BK276.out 2).trans rfl, (blk_cell BK260.out 0).trans rfl, (blk_cell BK260.out 1).trans rfl, (blk_cell BK260.out 2).trans rfl, hx288_0, ((HB.out.cell (World.block_lt_of_cell? w _ hw289_0)).trans hw289_0)⟩ (fun hHeld => ?_); refine with_tabW hinterlandlaw02_LandShiftsLeast.tab23 hinterlandlaw02_LandShiftsLeast.bits23 (fun HT_ HW_ => ?_)
                       generalize w85.drew = w97 at HO_4 HO_12 HO_277002 BK260 BK276 HB hx288_0 hx289_0 hHeld ⊢
                       refine pure_ (i := 0) (N := some 164) (v := ?_) (a' := ?_) (bA 1 42) rfl rfl (any_of HT_.out (by kernel_rfl)) (fun _ _ _ h => h) (Or.inl ⟨by rfl, ?_⟩) ?_ ?_; rotate_left; (intro w'; go_simp; with_reducible rfl); rotate_left; (simp only [Act.put, sI_, s0_, sS_, i64_w, i32_w]; rfl)
                       refine pure_ (i := 2) (N := some 166) (v := ?_) (a' := ?_) #[true, false, true, false, false, false, false, false, false, false, false, false, false, false, false, false, false, false, false, false, false, false, false, false, false, false, false, false, false, false, false, false, false, false, false, false, false, false, false, false, false, false] rfl rfl (any_of HT_.out (by kernel_rfl)) (fun _ _ _ h => h) (Or.inl ⟨by rfl, ?_⟩) ?_ ?_; rotate_left; (intro w'; go_simp; with_reducible rfl); rotate_left; (simp only [Act.put, sI_, s0_, sS_, i64_w, i32_w]; rfl)
                       refine pure_ (i := 5) (N := some 169) (v := ?_) (a' := ?_) #[true, false, true, false, false, true, false, false, false, false, false, false, false, false, false, false, false, false, false, false, false, false, false, false, false, false, false, false, false, false, false, false, false, false, false, false, false, false, false, false, false, false] rfl rfl (any_of HT_.out (by kernel_rfl)) (fun _ _ _ h => h) (Or.inl ⟨by rfl, ?_⟩) ?_ ?_; rotate_left; (intro w'; go_simp; with_reducible rfl); rotate_left; (simp only [Act.put, sI_, s0_, sS_, i64_w, i32_w]; rfl)
                       refine pure_ (i := 7) (N := some 171) (v := ?_) (a' := ?_) #[true, false, true, false, false, true, false, true, false, false, false, false, false, false, false, false, false, false, false, false, false, false, false, false, false, false, false, false, false, false, false, false, false, false, false, false, false, false, false, false, false, false] rfl rfl (any_of HT_.out (by kernel_rfl)) (fun _ _ _ h => h) (Or.inl ⟨by rfl, ?_⟩) ?_ ?_; rotate_left; (intro w'; go_simp; with_reducible rfl); rotate_left; (simp only [Act.put, sI_, s0_, sS_, i64_w, i32_w]; rfl)
                       refine pure_ (i := 10) (N := some 174) (v := ?_) (a' := ?_) #[true, false, true, false, false, true, false, true, false, false, true, false, false, false, false, false, false, false, false, false, false, false, false, false, false, false, false, false, false, false, false, false, false, false, false, false, false, false, false, false, false, false] rfl rfl (any_of HT_.out (by kernel_rfl)) (fun _ _ _ h => h) (Or.inl ⟨by rfl, ?_⟩) ?_ ?_; rotate_left; (intro w'; go_simp; with_reducible rfl); rotate_left; (simp only [Act.put, sI_, s0_, sS_, i64_w, i32_w]; rfl)
                       refine take_ (i := 1) (N := some 165) (v := ?_) (a' := ?_) #[true, true, true, false, false, true, false, true, false, false, true, false, false, false, false, false, false, false, false, false, false, false, false, false, false, false, false, false, false, false, false, false, false, false, false, false, false, false, false, false, false, false] rfl rfl (take_ofW HT_.out HW_.out (by kernel_rfl)) (fun _ _ _ h => h) (Or.inl ⟨by rfl, ?_⟩) hHeld ?_ ?_; rotate_left; (rintro w' ⟨s0, s1, s2, s3, s4, s5, s6, s7⟩; go_simp; with_reducible rfl); rotate_left; (simp only [Act.put, sI_, s0_, sS_, i64_w, i32_w]; rfl)
                       refine pure_ (i := 3) (N := some 167) (v := ?_) (a' := ?_) #[true, true, true, true, false, true, false, true, false, false, true, false, false, false, false, false, false, false, false, false, false, false, false, false, false, false, false, false, false, false, false, false, false, false, false, false, false, false, false, false, false, false] rfl rfl (any_of HT_.out (by kernel_rfl)) (fun _ _ _ h => h) (Or.inl ⟨by rfl, ?_⟩) ?_ ?_; rotate_left; (intro w'; go_simp; with_reducible rfl); rotate_left; (simp only [Act.put, sI_, s0_, sS_, i64_w, i32_w]; rfl)
                       refine take_ (i := 4) (N := some 168) (v := ?_) (a' := ?_) #[true, true, true, true, true, true, false, true, false, false, true, false, false, false, false, false, false, false, false, false, false, false, false, false, false, false, false, false, false, false, false, false, false, false, false, false, false, false, false, false, false, false] rfl rfl (take_ofW HT_.out HW_.out (by kernel_rfl)) (fun _ _ _ h => h) (Or.inl ⟨by rfl, ?_⟩) hHeld ?_ ?_; rotate_left; (rintro w' ⟨s0, s1, s2, s3, s4, s5, s6, s7⟩; go_simp; with_reducible rfl); rotate_left; (simp only [Act.put, sI_, s0_, sS_, i64_w, i32_w]; rfl)
                       refine take_ (i := 6) (N := some 170) (v := ?_) (a' := ?_) #[true, true, true, true, true, true, true, true, false, false, true, false, false, false, false, false, false, false, false, false, false, false, false, false, false, false, false, false, false, false, false, false, false, false, false, false, false, false, false, false, false, false] rfl rfl (take_ofW HT_.out HW_.out (by kernel_rfl)) (fun _ _ _ h => h) (Or.inl ⟨by rfl, ?_⟩) hHeld ?_ ?_; rotate_left; (rintro w' ⟨s0, s1, s2, s3, s4, s5, s6, s7⟩; go_simp; with_reducible rfl); rotate_left; (simp only [Act.put, sI_, s0_, sS_, i64_w, i32_w]; rfl)
                       refine pure_ (i := 8) (N := some 172) (v := ?_) (a' := ?_) #[true, true, true, true, true, true, true, true, true, false, true, false, false, false, false, false, false, false, false, false, false, false, false, false, false, false, false, false, false, false, false, false, false, false, false, false, false, false, false, false, false, false] rfl rfl (any_of HT_.out (by kernel_rfl)) (fun _ _ _ h => h) (Or.inl ⟨by rfl, ?_⟩) ?_ ?_; rotate_left; (intro w'; go_simp; with_reducible rfl); rotate_left; (simp only [Act.put, sI_, s0_, sS_, i64_w, i32_w]; rfl)
                       refine take_ (i := 9) (N := some 173) (v := ?_) (a' := ?_) (bA 11 42) rfl rfl (take_ofW HT_.out HW_.out (by kernel_rfl)) (fun _ _ _ h => h) (Or.inl ⟨by rfl, ?_⟩) hHeld ?_ ?_; rotate_left; (rintro w' ⟨s0, s1, s2, s3, s4, s5, s6, s7⟩; go_simp; with_reducible rfl); rotate_left; (simp only [Act.put, sI_, s0_, sS_, i64_w, i32_w]; rfl)
                       refine pure_ (i := 11) (N := some 175) (v := ?_) (a' := ?_) (bA 12 42) rfl rfl (any_of HT_.out (by kernel_rfl)) (fun _ _ _ h => h) (Or.inl ⟨by rfl, ?_⟩) ?_ ?_; rotate_left; (intro w'; go_simp; with_reducible rfl); rotate_left; (simp only [Act.put, sI_, s0_, sS_, i64_w, i32_w]; rfl)
                       refine pure_ (i := 12) (N := some 176) (v := ?_) (a' := ?_) (bA 13 42) rfl rfl (any_of HT_.out (by kernel_rfl)) (fun _ _ _ h => h) (Or.inl ⟨by rfl, ?_⟩) ?_ ?_; rotate_left; (intro w'; go_simp; with_reducible rfl); rotate_left; (simp only [Act.put, sI_, s0_, sS_, i64_w, i32_w]; rfl)
                       refine pure_ (i := 13) (N := some 177) (v := ?_) (a' := ?_) (bA 14 42) rfl rfl (any_of HT_.out (by kernel_rfl)) (fun _ _ _ h => h) (Or.inl ⟨by rfl, ?_⟩) ?_ ?_; rotate_left; (intro w'; go_simp; with_reducible rfl); rotate_left; (simp only [Act.put, sI_, s0_, sS_, i64_w, i32_w]; rfl)
                       refine pure_ (i := 14) (N := some 178) (v := undef) (a' := ?_) (bA 15 42) rfl rfl (any_of HT_.out (by kernel_rfl)) (fun _ _ _ h => h) (Or.inr ⟨by rfl, rfl⟩) ?_ ?_; rotate_left; (simp only [Act.put, sI_, s0_, sS_, i64_w, i32_w]; rfl)
                       refine pure_ (i := 15) (N := some 179) (v := undef) (a' := ?_) (bA 16 42) rfl rfl (any_of HT_.out (by kernel_rfl)) (fun _ _ _ h => h) (Or.inr ⟨by rfl, rfl⟩) ?_ ?_; rotate_left; (simp only [Act.put, sI_, s0_, sS_, i64_w, i32_w]; rfl)
                       refine pure_ (i := 16) (N := some 180) (v := undef) (a' := ?_) (bA 17 42) rfl rfl (any_of HT_.out (by kernel_rfl)) (fun _ _ _ h => h) (Or.inr ⟨by rfl, rfl⟩) ?_ ?_; rotate_left; (simp only [Act.put, sI_, s0_, sS_, i64_w, i32_w]; rfl)
                       refine pure_ (i := 17) (N := some 181) (v := undef) (a' := ?_) (bA 18 42) rfl rfl (any_of HT_.out (by kernel_rfl)) (fun _ _ _ h => h) (Or.inr ⟨by rfl, rfl⟩) ?_ ?_; rotate_left; (simp only [Act.put, sI_, s0_, sS_, i64_w, i32_w]; rfl)
                       refine pure_ (i := 18) (N := some 182) (v := ?_) (a' := ?_) (bA 19 42) rfl rfl (any_of HT_.out (by kernel_rfl)) (fun _ _ _ h => h) (Or.inl ⟨by rfl, ?_⟩) ?_ ?_; rotate_left; (intro w'; go_simp; with_reducible rfl); rotate_left; (simp only [Act.put, sI_, s0_, sS_, i64_w, i32_w]; rfl)
                       refine pure_ (i := 19) (N := some 183) (v := ?_) (a' := ?_) (bA 20 42) rfl rfl (any_of HT_.out (by kernel_rfl)) (fun _ _ _ h => h) (Or.inl ⟨by rfl, ?_⟩) ?_ ?_; rotate_left; (intro w'; go_simp; with_reducible rfl); rotate_left; (simp only [Act.put, sI_, s0_, sS_, i64_w, i32_w]; rfl)
                       refine pure_ (i := 20) (N := some 184) (v := undef) (a' := ?_) (bA 21 42) rfl rfl (any_of HT_.out (by kernel_rfl)) (fun _ _ _ h => h) (Or.inr ⟨by rfl, rfl⟩) ?_ ?_; rotate_left; (simp only [Act.put, sI_, s0_, sS_, i64_w, i32_w]; rfl)
                       refine pure_ (i := 21) (N := some 185) (v := undef) (a' := ?_) (bA 22 42) rfl rfl (any_of HT_.out (by kernel_rfl)) (fun _ _ _ h => h) (Or.inr ⟨by rfl, rfl⟩) ?_ ?_; rotate_left; (simp only [Act.put, sI_, s0_, sS_, i64_w, i32_w]; rfl)
                       refine pure_ (i := 22) (N := some 186) (v := undef) (a' := ?_) (bA 23 42) rfl rfl (any_of HT_.out (by kernel_rfl)) (fun _ _ _ h => h) (Or.inr ⟨by rfl, rfl⟩) ?_ ?_; rotate_left; (simp only [Act.put, sI_, s0_, sS_, i64_w, i32_w]; rfl)
                       refine pure_ (i := 23) (N := some 187) (v := undef) (a' := ?_) (bA 24 42) rfl rfl (any_of HT_.out (by kernel_rfl)) (fun _ _ _ h => h) (Or.inr ⟨by rfl, rfl⟩) ?_ ?_; rotate_left; (simp only [Act.put, sI_, s0_, sS_, i64_w, i32_w]; rfl)
                       refine pure_ (i := 24) (N := some 188) (v := undef) (a' := ?_) (bA 25 42) rfl rfl (any_of HT_.out (by kernel_rfl)) (fun _ _ _ h => h) (Or.inr ⟨by rfl, rfl⟩) ?_ ?_; rotate_left; (simp only [Act.put, sI_, s0_, sS_, i64_w, i32_w]; rfl)
                       refine pure_ (i := 25) (N := some 189) (v := undef) (a' := ?_) (bA 26 42) rfl rfl (any_of HT_.out (by kernel_rfl)) (fun _ _ _ h => h) (Or.inr ⟨by rfl, rfl⟩) ?_ ?_; rotate_left; (simp only [Act.put, sI_, s0_, sS_, i64_w, i32_w]; rfl)
                       refine pure_ (i := 26) (N := some 190) (v := undef) (a' := ?_) (bA 27 42) rfl rfl (any_of HT_.out (by kernel_rfl)) (fun _ _ _ h => h) (Or.inr ⟨by rfl, rfl⟩) ?_ ?_; rotate_left; (simp only [Act.put, sI_, s0_, sS_, i64_w, i32_w]; rfl)
                       refine pure_ (i := 27) (N := some 191) (v := undef) (a' := ?_) (bA 28 42) rfl rfl (any_of HT_.out (by kernel_rfl)) (fun _ _ _ h => h) (Or.inr ⟨by rfl, rfl⟩) ?_ ?_; rotate_left; (simp only [Act.put, sI_, s0_, sS_, i64_w, i32_w]; rfl)
                       refine pure_ (i := 28) (N := some 192) (v := undef) (a' := ?_) (bA 29 42) rfl rfl (any_of HT_.out (by kernel_rfl)) (fun _ _ _ h => h) (Or.inr ⟨by rfl, rfl⟩) ?_ ?_; rotate_left; (simp only [Act.put, sI_, s0_, sS_, i64_w, i32_w]; rfl)
                       refine pure_ (i := 29) (N := some 193) (v := undef) (a' := ?_) (bA 30 42) rfl rfl (any_of HT_.out (by kernel_rfl)) (fun _ _ _ h => h) (Or.inr ⟨by rfl, rfl⟩) ?_ ?_; rotate_left; (simp only [Act.put, sI_, s0_, sS_, i64_w, i32_w]; rfl)
                       refine pure_ (i := 30) (N := some 194) (v := undef) (a' := ?_) (bA 31 42) rfl rfl (any_of HT_.out (by kernel_rfl)) (fun _ _ _ h => h) (Or.inr ⟨by rfl, rfl⟩) ?_ ?_; rotate_left; (simp only [Act.put, sI_, s0_, sS_, i64_w, i32_w]; rfl)
                       refine pure_ (i := 31) (N := some 195) (v := undef) (a' := ?_) (bA 32 42) rfl rfl (any_of HT_.out (by kernel_rfl)) (fun _ _ _ h => h) (Or.inr ⟨by rfl, rfl⟩) ?_ ?_; rotate_left; (simp only [Act.put, sI_, s0_, sS_, i64_w, i32_w]; rfl)
                       refine pure_ (i := 32) (N := some 196) (v := undef) (a' := ?_) (bA 33 42) rfl rfl (any_of HT_.out (by kernel_rfl)) (fun _ _ _ h => h) (Or.inr ⟨by rfl, rfl⟩) ?_ ?_; rotate_left; (simp only [Act.put, sI_, s0_, sS_, i64_w, i32_w]; rfl)
                       refine pure_ (i := 33) (N := some 197) (v := undef) (a' := ?_) (bA 34 42) rfl rfl (any_of HT_.out (by kernel_rfl)) (fun _ _ _ h => h) (Or.inr ⟨by rfl, rfl⟩) ?_ ?_; rotate_left; (simp only [Act.put, sI_, s0_, sS_, i64_w, i32_w]; rfl)
                       refine pure_ (i := 34) (N := some 198) (v := undef) (a' := ?_) (bA 35 42) rfl rfl (any_of HT_.out (by kernel_rfl)) (fun _ _ _ h => h) (Or.inr ⟨by rfl, rfl⟩) ?_ ?_; rotate_left; (simp only [Act.put, sI_, s0_, sS_, i64_w, i32_w]; rfl)
                       refine pure_ (i := 35) (N := some 199) (v := undef) (a' := ?_) (bA 36 42) rfl rfl (any_of HT_.out (by kernel_rfl)) (fun _ _ _ h => h) (Or.inr ⟨by rfl, rfl⟩) ?_ ?_; rotate_left; (simp only [Act.put, sI_, s0_, sS_, i64_w, i32_w]; rfl)
                       refine pure_ (i := 36) (N := some 200) (v := undef) (a' := ?_) (bA 37 42) rfl rfl (any_of HT_.out (by kernel_rfl)) (fun _ _ _ h => h) (Or.inr ⟨by rfl, rfl⟩) ?_ ?_; rotate_left; (simp only [Act.put, sI_, s0_, sS_, i64_w, i32_w]; rfl)
                       refine pure_ (i := 37) (N := some 201) (v := undef) (a' := ?_) (bA 38 42) rfl rfl (any_of HT_.out (by kernel_rfl)) (fun _ _ _ h => h) (Or.inr ⟨by rfl, rfl⟩) ?_ ?_; rotate_left; (simp only [Act.put, sI_, s0_, sS_, i64_w, i32_w]; rfl)
                       refine pure_ (i := 38) (N := some 202) (v := undef) (a' := ?_) (bA 39 42) rfl rfl (any_of HT_.out (by kernel_rfl)) (fun _ _ _ h => h) (Or.inr ⟨by rfl, rfl⟩) ?_ ?_; rotate_left; (simp only [Act.put, sI_, s0_, sS_, i64_w, i32_w]; rfl)
                       refine pure_ (i := 39) (N := some 203) (v := undef) (a' := ?_) (bA 40 42) rfl rfl (any_of HT_.out (by kernel_rfl)) (fun _ _ _ h => h) (Or.inr ⟨by rfl, rfl⟩) ?_ ?_; rotate_left; (simp only [Act.put, sI_, s0_, sS_, i64_w, i32_w]; rfl)
                       refine pure_ (i := 40) (N := some 204) (v := undef) (a' := ?_) (bA 41 42) rfl rfl (any_of HT_.out (by kernel_rfl)) (fun _ _ _ h => h) (Or.inr ⟨by rfl, rfl⟩) ?_ ?_; rotate_left; (simp only [Act.put, sI_, s0_, sS_, i64_w, i32_w]; rfl)
                       refine pure_ (i := 41) (N := some 205) (v := ?_) (a' := ?_) (bA 42 42) rfl rfl (any_of HT_.out (by kernel_rfl)) (fun _ _ _ h => h) (Or.inl ⟨by rfl, ?_⟩) ?_ ?_; rotate_left; (intro w'; go_simp; with_reducible rfl); rotate_left; (simp only [Act.put, sI_, s0_, sS_, i64_w, i32_w]; rfl)
                       refine done_ (done_of HT_.out (by kernel_rfl)) ?_
                       try go_wp2
                       go_meet
                       case rel => exact ⟨_, (true), tS_, H', ⟨by have := HJ17.out; have := HJ31.out; have := HJ56.out; have := HK4.out; have := HK5.out; first | omega | exact Nat.le_refl _⟩, ⟨by (with_reducible repeat (first | apply Kd.V_alloc | apply Kd.V_drewN | apply Kd.V_drew)); exact HO_4.out⟩, ⟨dR_ HO_12⟩, ⟨dR_ HO_277002⟩, ⟨dB_ BK260⟩, ⟨dB_ BK276⟩, ⟨dL2_ HB GE260 GE276⟩⟩
                     case rest => as_aux_lemma =>
                      clear HC87
                      try clear c88
                      try clear c92
                      try clear c93
                      obtain ⟨kq, x205_86, rfl, HA, HJ86, HO_4, HO_12, HO_277002, BK260, BK276, HB⟩ := hcut
                      cases kq with
                      | zero => exact absurd HA.out (by simp [hinterlandlaw02_LandShiftsLeast.j7])
                      | succ kj86 =>
                       have H := HA.out
                       clear HA
                       simp only [hinterlandlaw02_LandShiftsLeast.j7] at H
                       by_cases c98 : x205_86 = true
                       ·subst c98
                        have H1 : (some false) = some r := by rw [if_pos rfl] at H; exact H
                        clear H
                        have H := H1
                        clear H1
                        obtain rfl := Option.some.inj H
                        go_wp2
                        go_ret
                        exact ⟨tE_, dL2_ HB GE260 GE276⟩
                       ·replace c98 := Bool.eq_false_iff.mpr c98
                        subst c98
                        have H1 : (hinterlandlaw02_LandShiftsLeast.j8 kj86 l4 t271 x15_17 x17_4 (wrap64 (x19_5 + 1)) x150_5 (l0_2.length : Int) x150_5 a0_0 a0_1 l0_2 t266 t267 t268) = some r := by rw [if_neg (show ¬ (false = true) by decide)] at H; exact H
                        clear H
                        have H := H1
                        clear H1
                        have H' := Aside0.mk H
                        clear H
                        go_wp2
                        go_meet
                        case rel => exact ⟨_, (wrap64 (x19_5 + 1)), tS_, H', ⟨by have := HJ17.out; have := HJ31.out; have := HJ56.out; have := HK4.out; have := HK5.out; have := HJ86.out; first | omega | exact Nat.le_refl _⟩, ⟨by (with_reducible repeat (first | apply Kd.V_alloc | apply Kd.V_drewN | apply Kd.V_drew)); exact HO_4.out⟩, ⟨dR_ HO_12⟩, ⟨dR_ HO_277002⟩, ⟨dB_ BK260⟩, ⟨dB_ BK276⟩, ⟨dL2_ HB GE260 GE276⟩⟩
                   case rest => as_aux_lemma =>
                    clear HC84
                    try clear c88
                    try clear c92
                    try clear c93
                    obtain ⟨kq, x19_83, rfl, HA, HJ83, HO_4, HO_12, HO_277002, BK260, BK276, HB⟩ := hcut
                    cases kq with
                    | zero => exact absurd HA.out (by simp [hinterlandlaw02_LandShiftsLeast.j8])
                    | succ kj83 =>
                     have H := HA.out
                     clear HA
                     simp only [hinterlandlaw02_LandShiftsLeast.j8] at H
                     have HC99 := Aside0.mk H
                     clear H
                     go_upto_region 26 with (fail)
                     go_cut [223] (fun v223 wc => ∃ (kq : Nat) (x223_98 : Bool), v223 = .bool x223_98 ∧ Aside0 (hinterlandlaw02_LandShiftsLeast.j9 kq l4 t271 x15_17 x17_4 x19_83 (l0_2.length : Int) x150_5 x223_98 a0_0 a0_1 l0_2 t266 t267 t268 = some r) ∧ Aside0 (kq ≤ kj83) ∧ Aside0 (Kd.V (Kd.int .i64) 3 wc w.heap.size (fun k_ => (P4_ k_ ∨ w.heap.size ≤ k_) ∧ some k_ ≠ (v272 : Value).ownBlock ∧ some k_ ≠ ((.slice (some ad286) t268.length co30) : Value).ownBlock ∧ k_ ≠ gb260 ∧ k_ ≠ gb276) (.slice A4 l4.length c4) l4) ∧ Aside0 (Kd.R k36 36 wc w.heap.size (fun k_ => (w.heap.size ≤ k_)) v272 t271) ∧ Aside0 (Kd.R (Kd.int .i64) 3 wc w.heap.size (fun k_ => (w.heap.size ≤ k_)) (.slice (some ad286) t268.length co30) t268) ∧ Aside0 (wc.heap[gb260]? = some (.cells #[.int .i64 a0_0, .int .i64 a0_1, (.slice (some ad287) l0_2.length c0_2)] 24 (0, 0))) ∧ Aside0 (wc.heap[gb276]? = some (.cells #[.int .i64 t266, .int .i64 t267, (.slice (some ad286) t268.length co30)] 24 (0, 0))) ∧ Aside0 (Below w.heap.size w wc))
                     case first => as_aux_lemma =>
                      have H := HC99.out
                      clear HC99
                      by_cases c100 : x17_4 = true
                      ·subst c100
                       have H1 : (if 0 ≤ x150_5 then (if x150_5 < (l4.length : Int) then (if x150_5 < (t268.length : Int) then (hinterlandlaw02_LandShiftsLeast.j9 kj83 l4 t271 x15_17 true x19_83 (l0_2.length : Int) x150_5 (decide ((wrap64 ((wrap64 ((rd l4 x150_5) - (rd t268 x150_5))) * x15_17)) < 0)) a0_0 a0_1 l0_2 t266 t267 t268) else (none)) else (none)) else (none)) = some r := by rw [if_pos rfl] at H; exact H
                       clear H
                       have H := H1
                       clear H1
                       by_cases c101 : 0 ≤ x150_5
                       ·rw [if_pos c101] at H
                        have c101b0 : decide (0 ≤ x150_5) = true := decide_eq_true c101
                        clear c101
                        (first | rw [c101b0] | (simp only [i64_w, i32_w]; rw [c101b0]) | skip)
                        by_cases c102 : x150_5 < (l4.length : Int)
                        ·rw [if_pos c102] at H
                         have c102b0 : decide (x150_5 < (l4.length : Int)) = true := decide_eq_true c102
                         clear c102
                         by_cases c103 : x150_5 < (t268.length : Int)
                         ·rw [if_pos c103] at H
                          have c103b0 : decide (x150_5 < (t268.length : Int)) = true := decide_eq_true c103
                          clear c103
                          have H' := Aside0.mk H
                          clear H
                          try go_wp2
                          replace HO_4 := Aside0.mk (Kd.V_drew HO_4.out)
                          replace HO_12 := Aside0.mk (Kd.R_drew HO_12.out)
                          replace HO_277002 := Aside0.mk (Kd.R_drew HO_277002.out)
                          replace BK260 := Aside0.mk (blk_drew BK260.out)
                          replace BK276 := Aside0.mk (blk_drew BK276.out)
                          replace HB := Aside0.mk (below_drew1 HB.out)
                          have p292 : 0 ≤ (x150_5 : Int) := of_decide_eq_true tW_
                          have q292 : x150_5 < (l4.length : Int) := of_decide_eq_true tW_
                          obtain ⟨ad292, e292, hx292_0⟩ := Kd.at_int (Kd.V_reads' HO_4.out).2.2 x150_5 p292 q292
                          cases e292
                          replace p292 := eq_true p292
                          replace q292 := eq_true q292
                          have p293 : 0 ≤ (x150_5 : Int) := of_decide_eq_true tW_
                          have q293 : x150_5 < (t268.length : Int) := of_decide_eq_true tW_
                          obtain ⟨ad293, e293, hx293_0⟩ := Kd.at_int (Kd.R_reads' HO_277002.out).2.2 x150_5 p293 q293
                          obtain rfl : ad286 = ad293 := (by injection e293)
                          replace p293 := eq_true p293
                          replace q293 := eq_true q293
                          refine start_ (n := 16) (S := fun w' => w'.cell? ⟨gb276, 0, none⟩ = some (.int .i64 t266) ∧ w'.cell? ⟨gb276, 1, none⟩ = some (.int .i64 t267) ∧ w'.cell? ⟨gb276, 2, none⟩ = some (.slice (some ad286) t268.length co30) ∧ w'.cell? (ad292.add (x150_5).toNat) = some (.int .i64 (rd l4 x150_5)) ∧ w'.cell? (ad286.add (x150_5).toNat) = some (.int .i64 (rd t268 x150_5))) (ds := []) #[false, false, false, false, false, false, false, false, false, false, false, false, false, false, false, false] (by kernel_rfl) rfl rfl ⟨(blk_cell BK276.out 0).trans rfl, (blk_cell BK276.out 1).trans rfl, (blk_cell BK276.out 2).trans rfl, hx292_0, hx293_0⟩ (fun hHeld => ?_); refine with_tabW hinterlandlaw02_LandShiftsLeast.tab26 hinterlandlaw02_LandShiftsLeast.bits26 (fun HT_ HW_ => ?_)
                          generalize wc.drew = w104 at HO_4 HO_12 HO_277002 BK260 BK276 HB hx292_0 hx293_0 hHeld ⊢
                          refine pure_ (i := 0) (N := some 208) (v := ?_) (a' := ?_) (bA 1 16) rfl rfl (any_of HT_.out (by kernel_rfl)) (fun _ _ _ h => h) (Or.inl ⟨by rfl, ?_⟩) ?_ ?_; rotate_left; (intro w'; go_simp; with_reducible rfl); rotate_left; (simp only [Act.put, sI_, s0_, sS_, i64_w, i32_w]; rfl)
                          refine pure_ (i := 1) (N := some 209) (v := ?_) (a' := ?_) (bA 2 16) rfl rfl (any_of HT_.out (by kernel_rfl)) (fun _ _ _ h => h) (Or.inl ⟨by rfl, ?_⟩) ?_ ?_; rotate_left; (intro w'; go_simp; with_reducible rfl); rotate_left; (simp only [Act.put, sI_, s0_, sS_, i64_w, i32_w]; rfl)
                          refine pure_ (i := 2) (N := some 210) (v := ?_) (a' := ?_) (bA 3 16) rfl rfl (any_of HT_.out (by kernel_rfl)) (fun _ _ _ h => h) (Or.inl ⟨by rfl, ?_⟩) ?_ ?_; rotate_left; (intro w'; go_simp; with_reducible rfl); rotate_left; (simp only [Act.put, sI_, s0_, sS_, i64_w, i32_w]; rfl)
                          refine pure_ (i := 3) (N := some 211) (v := ?_) (a' := ?_) (bA 4 16) rfl rfl (any_of HT_.out (by kernel_rfl)) (fun _ _ _ h => h) (Or.inl ⟨by rfl, ?_⟩) ?_ ?_; rotate_left; (intro w'; go_simp; with_reducible rfl); rotate_left; (simp only [Act.put, sI_, s0_, sS_, i64_w, i32_w]; rfl)
                          refine pure_ (i := 4) (N := some 212) (v := ?_) (a' := ?_) (bA 5 16) rfl rfl (any_of HT_.out (by kernel_rfl)) (fun _ _ _ h => h) (Or.inl ⟨by rfl, ?_⟩) ?_ ?_; rotate_left; (intro w'; go_simp; with_reducible rfl); rotate_left; (simp only [Act.put, sI_, s0_, sS_, i64_w, i32_w]; rfl)
                          refine pure_ (i := 6) (N := some 214) (v := ?_) (a' := ?_) #[true, true, true, true, true, false, true, false, false, false, false, false, false, false, false, false] rfl rfl (any_of HT_.out (by kernel_rfl)) (fun _ _ _ h => h) (Or.inl ⟨by rfl, ?_⟩) ?_ ?_; rotate_left; (intro w'; go_simp; with_reducible rfl); rotate_left; (simp only [Act.put, sI_, s0_, sS_, i64_w, i32_w]; rfl)
                          refine pure_ (i := 8) (N := some 216) (v := ?_) (a' := ?_) #[true, true, true, true, true, false, true, false, true, false, false, false, false, false, false, false] rfl rfl (any_of HT_.out (by kernel_rfl)) (fun _ _ _ h => h) (Or.inl ⟨by rfl, ?_⟩) ?_ ?_; rotate_left; (intro w'; go_simp; with_reducible rfl); rotate_left; (simp only [Act.put, sI_, s0_, sS_, i64_w, i32_w]; rfl)
                          refine pure_ (i := 12) (N := some 220) (v := ?_) (a' := ?_) #[true, true, true, true, true, false, true, false, true, false, false, false, true, false, false, false] rfl rfl (any_of HT_.out (by kernel_rfl)) (fun _ _ _ h => h) (Or.inl ⟨by rfl, ?_⟩) ?_ ?_; rotate_left; (intro w'; go_simp; with_reducible rfl); rotate_left; (simp only [Act.put, sI_, s0_, sS_, i64_w, i32_w]; rfl)
                          refine take_ (i := 5) (N := some 213) (v := ?_) (a' := ?_) #[true, true, true, true, true, true, true, false, true, false, false, false, true, false, false, false] rfl rfl (take_ofW HT_.out HW_.out (by kernel_rfl)) (fun _ _ _ h => h) (Or.inl ⟨by rfl, ?_⟩) hHeld ?_ ?_; rotate_left; (rintro w' ⟨s0, s1, s2, s3, s4⟩; go_simp; with_reducible rfl); rotate_left; (simp only [Act.put, sI_, s0_, sS_, i64_w, i32_w]; rfl)
                          refine take_ (i := 7) (N := some 215) (v := ?_) (a' := ?_) #[true, true, true, true, true, true, true, true, true, false, false, false, true, false, false, false] rfl rfl (take_ofW HT_.out HW_.out (by kernel_rfl)) (fun _ _ _ h => h) (Or.inl ⟨by rfl, ?_⟩) hHeld ?_ ?_; rotate_left; (rintro w' ⟨s0, s1, s2, s3, s4⟩; go_simp; with_reducible rfl); rotate_left; (simp only [Act.put, sI_, s0_, sS_, i64_w, i32_w]; rfl)
                          refine pure_ (i := 9) (N := some 217) (v := ?_) (a' := ?_) #[true, true, true, true, true, true, true, true, true, true, false, false, true, false, false, false] rfl rfl (any_of HT_.out (by kernel_rfl)) (fun _ _ _ h => h) (Or.inl ⟨by rfl, ?_⟩) ?_ ?_; rotate_left; (intro w'; go_simp; with_reducible rfl); rotate_left; (simp only [Act.put, sI_, s0_, sS_, i64_w, i32_w]; rfl)
                          refine take_ (i := 10) (N := some 218) (v := ?_) (a' := ?_) #[true, true, true, true, true, true, true, true, true, true, true, false, true, false, false, false] rfl rfl (take_ofW HT_.out HW_.out (by kernel_rfl)) (fun _ _ _ h => h) (Or.inl ⟨by rfl, ?_⟩) hHeld ?_ ?_; rotate_left; (rintro w' ⟨s0, s1, s2, s3, s4⟩; go_simp; with_reducible rfl); rotate_left; (simp only [Act.put, sI_, s0_, sS_, i64_w, i32_w]; rfl)
                          refine pure_ (i := 11) (N := some 219) (v := ?_) (a' := ?_) (bA 13 16) rfl rfl (any_of HT_.out (by kernel_rfl)) (fun _ _ _ h => h) (Or.inl ⟨by rfl, ?_⟩) ?_ ?_; rotate_left; (intro w'; go_simp; with_reducible rfl); rotate_left; (simp only [Act.put, sI_, s0_, sS_, i64_w, i32_w]; rfl)
                          refine pure_ (i := 13) (N := some 221) (v := ?_) (a' := ?_) (bA 14 16) rfl rfl (any_of HT_.out (by kernel_rfl)) (fun _ _ _ h => h) (Or.inl ⟨by rfl, ?_⟩) ?_ ?_; rotate_left; (intro w'; go_simp; with_reducible rfl); rotate_left; (simp only [Act.put, sI_, s0_, sS_, i64_w, i32_w]; rfl)
                          refine pure_ (i := 14) (N := some 222) (v := ?_) (a' := ?_) (bA 15 16) rfl rfl (any_of HT_.out (by kernel_rfl)) (fun _ _ _ h => h) (Or.inl ⟨by rfl, ?_⟩) ?_ ?_; rotate_left; (intro w'; go_simp; with_reducible rfl); rotate_left; (simp only [Act.put, sI_, s0_, sS_, i64_w, i32_w]; rfl)
                          refine pure_ (i := 15) (N := some 223) (v := ?_) (a' := ?_) (bA 16 16) rfl rfl (any_of HT_.out (by kernel_rfl)) (fun _ _ _ h => h) (Or.inl ⟨by rfl, ?_⟩) ?_ ?_; rotate_left; (intro w'; go_simp; with_reducible rfl); rotate_left; (simp only [Act.put, sI_, s0_, sS_, i64_w, i32_w]; rfl)
                          refine done_ (done_of HT_.out (by kernel_rfl)) ?_
                          try go_wp2
                          go_meet
                          case rel => exact ⟨_, (decide ((wrap64 ((wrap64 ((rd l4 x150_5) - (rd t268 x150_5))) * x15_17)) < 0)), tS_, H', ⟨by have := HJ17.out; have := HJ31.out; have := HJ56.out; have := HK4.out; have := HK5.out; have := HJ83.out; first | omega | exact Nat.le_refl _⟩, ⟨by (with_reducible repeat (first | apply Kd.V_alloc | apply Kd.V_drewN | apply Kd.V_drew)); exact HO_4.out⟩, ⟨dR_ HO_12⟩, ⟨dR_ HO_277002⟩, ⟨dB_ BK260⟩, ⟨dB_ BK276⟩, ⟨dL2_ HB GE260 GE276⟩⟩
                         ·rw [if_neg c103] at H
                          exact absurd H (by simp)
                        ·rw [if_neg c102] at H
                         exact absurd H (by simp)
                       ·rw [if_neg c101] at H
                        exact absurd H (by simp)
                      ·replace c100 := Bool.eq_false_iff.mpr c100
                       subst c100
                       have H1 : (hinterlandlaw02_LandShiftsLeast.j9 kj83 l4 t271 x15_17 false x19_83 (l0_2.length : Int) x150_5 false a0_0 a0_1 l0_2 t266 t267 t268) = some r := by rw [if_neg (show ¬ (false = true) by decide)] at H; exact H
                       clear H
                       have H := H1
                       clear H1
                       have H' := Aside0.mk H
                       clear H
                       try go_wp2
                       replace HO_4 := Aside0.mk (Kd.V_drew HO_4.out)
                       replace HO_12 := Aside0.mk (Kd.R_drew HO_12.out)
                       replace HO_277002 := Aside0.mk (Kd.R_drew HO_277002.out)
                       replace BK260 := Aside0.mk (blk_drew BK260.out)
                       replace BK276 := Aside0.mk (blk_drew BK276.out)
                       replace HB := Aside0.mk (below_drew1 HB.out)
                       refine start_ (n := 16) (S := fun w' => True) (ds := []) #[false, false, false, false, false, false, false, false, false, false, false, false, false, false, false, false] (by kernel_rfl) rfl rfl trivial (fun hHeld => ?_); refine with_tabW hinterlandlaw02_LandShiftsLeast.tab26 hinterlandlaw02_LandShiftsLeast.bits26 (fun HT_ HW_ => ?_)
                       generalize wc.drew = w105 at HO_4 HO_12 HO_277002 BK260 BK276 HB hHeld ⊢
                       refine pure_ (i := 0) (N := some 208) (v := ?_) (a' := ?_) (bA 1 16) rfl rfl (any_of HT_.out (by kernel_rfl)) (fun _ _ _ h => h) (Or.inl ⟨by rfl, ?_⟩) ?_ ?_; rotate_left; (intro w'; go_simp; with_reducible rfl); rotate_left; (simp only [Act.put, sI_, s0_, sS_, i64_w, i32_w]; rfl)
                       refine pure_ (i := 1) (N := some 209) (v := ?_) (a' := ?_) (bA 2 16) rfl rfl (any_of HT_.out (by kernel_rfl)) (fun _ _ _ h => h) (Or.inl ⟨by rfl, ?_⟩) ?_ ?_; rotate_left; (intro w'; go_simp; with_reducible rfl); rotate_left; (simp only [Act.put, sI_, s0_, sS_, i64_w, i32_w]; rfl)
                       refine pure_ (i := 2) (N := some 210) (v := undef) (a' := ?_) (bA 3 16) rfl rfl (any_of HT_.out (by kernel_rfl)) (fun _ _ _ h => h) (Or.inr ⟨by rfl, rfl⟩) ?_ ?_; rotate_left; (simp only [Act.put, sI_, s0_, sS_, i64_w, i32_w]; rfl)
                       refine pure_ (i := 3) (N := some 211) (v := undef) (a' := ?_) (bA 4 16) rfl rfl (any_of HT_.out (by kernel_rfl)) (fun _ _ _ h => h) (Or.inr ⟨by rfl, rfl⟩) ?_ ?_; rotate_left; (simp only [Act.put, sI_, s0_, sS_, i64_w, i32_w]; rfl)
                       refine pure_ (i := 4) (N := some 212) (v := undef) (a' := ?_) (bA 5 16) rfl rfl (any_of HT_.out (by kernel_rfl)) (fun _ _ _ h => h) (Or.inr ⟨by rfl, rfl⟩) ?_ ?_; rotate_left; (simp only [Act.put, sI_, s0_, sS_, i64_w, i32_w]; rfl)
                       refine pure_ (i := 5) (N := some 213) (v := undef) (a' := ?_) (bA 6 16) rfl rfl (any_of HT_.out (by kernel_rfl)) (fun _ _ _ h => h) (Or.inr ⟨by rfl, rfl⟩) ?_ ?_; rotate_left; (simp only [Act.put, sI_, s0_, sS_, i64_w, i32_w]; rfl)
                       refine pure_ (i := 6) (N := some 214) (v := undef) (a' := ?_) (bA 7 16) rfl rfl (any_of HT_.out (by kernel_rfl)) (fun _ _ _ h => h) (Or.inr ⟨by rfl, rfl⟩) ?_ ?_; rotate_left; (simp only [Act.put, sI_, s0_, sS_, i64_w, i32_w]; rfl)
                       refine pure_ (i := 7) (N := some 215) (v := undef) (a' := ?_) (bA 8 16) rfl rfl (any_of HT_.out (by kernel_rfl)) (fun _ _ _ h => h) (Or.inr ⟨by rfl, rfl⟩) ?_ ?_; rotate_left; (simp only [Act.put, sI_, s0_, sS_, i64_w, i32_w]; rfl)
                       refine pure_ (i := 8) (N := some 216) (v := undef) (a' := ?_) (bA 9 16) rfl rfl (any_of HT_.out (by kernel_rfl)) (fun _ _ _ h => h) (Or.inr ⟨by rfl, rfl⟩) ?_ ?_; rotate_left; (simp only [Act.put, sI_, s0_, sS_, i64_w, i32_w]; rfl)
                       refine pure_ (i := 9) (N := some 217) (v := undef) (a' := ?_) (bA 10 16) rfl rfl (any_of HT_.out (by kernel_rfl)) (fun _ _ _ h => h) (Or.inr ⟨by rfl, rfl⟩) ?_ ?_; rotate_left; (simp only [Act.put, sI_, s0_, sS_, i64_w, i32_w]; rfl)
                       refine pure_ (i := 10) (N := some 218) (v := undef) (a' := ?_) (bA 11 16) rfl rfl (any_of HT_.out (by kernel_rfl)) (fun _ _ _ h => h) (Or.inr ⟨by rfl, rfl⟩) ?_ ?_; rotate_left; (simp only [Act.put, sI_, s0_, sS_, i64_w, i32_w]; rfl)
                       refine pure_ (i := 11) (N := some 219) (v := undef) (a' := ?_) (bA 12 16) rfl rfl (any_of HT_.out (by kernel_rfl)) (fun _ _ _ h => h) (Or.inr ⟨by rfl, rfl⟩) ?_ ?_; rotate_left; (simp only [Act.put, sI_, s0_, sS_, i64_w, i32_w]; rfl)
                       refine pure_ (i := 12) (N := some 220) (v := undef) (a' := ?_) (bA 13 16) rfl rfl (any_of HT_.out (by kernel_rfl)) (fun _ _ _ h => h) (Or.inr ⟨by rfl, rfl⟩) ?_ ?_; rotate_left; (simp only [Act.put, sI_, s0_, sS_, i64_w, i32_w]; rfl)
                       refine pure_ (i := 13) (N := some 221) (v := undef) (a' := ?_) (bA 14 16) rfl rfl (any_of HT_.out (by kernel_rfl)) (fun _ _ _ h => h) (Or.inr ⟨by rfl, rfl⟩) ?_ ?_; rotate_left; (simp only [Act.put, sI_, s0_, sS_, i64_w, i32_w]; rfl)
                       refine pure_ (i := 14) (N := some 222) (v := undef) (a' := ?_) (bA 15 16) rfl rfl (any_of HT_.out (by kernel_rfl)) (fun _ _ _ h => h) (Or.inr ⟨by rfl, rfl⟩) ?_ ?_; rotate_left; (simp only [Act.put, sI_, s0_, sS_, i64_w, i32_w]; rfl)
                       refine pure_ (i := 15) (N := some 223) (v := ?_) (a' := ?_) (bA 16 16) rfl rfl (any_of HT_.out (by kernel_rfl)) (fun _ _ _ h => h) (Or.inl ⟨by rfl, ?_⟩) ?_ ?_; rotate_left; (intro w'; go_simp; with_reducible rfl); rotate_left; (simp only [Act.put, sI_, s0_, sS_, i64_w, i32_w]; rfl)
                       refine done_ (done_of HT_.out (by kernel_rfl)) ?_
                       try go_wp2
                       go_meet
                       case rel => exact ⟨_, (false), tS_, H', ⟨by have := HJ17.out; have := HJ31.out; have := HJ56.out; have := HK4.out; have := HK5.out; have := HJ83.out; first | omega | exact Nat.le_refl _⟩, ⟨by (with_reducible repeat (first | apply Kd.V_alloc | apply Kd.V_drewN | apply Kd.V_drew)); exact HO_4.out⟩, ⟨dR_ HO_12⟩, ⟨dR_ HO_277002⟩, ⟨dB_ BK260⟩, ⟨dB_ BK276⟩, ⟨dL2_ HB GE260 GE276⟩⟩
                     case rest => as_aux_lemma =>
                      clear HC99
                      try clear c4
                      try clear c88
                      try clear c92
                      try clear c93
                      try clear c101
                      try clear c102
                      try clear c103
                      obtain ⟨kq, x223_98, rfl, HA, HJ98, HO_4, HO_12, HO_277002, BK260, BK276, HB⟩ := hcut
                      cases kq with
                      | zero => exact absurd HA.out (by simp [hinterlandlaw02_LandShiftsLeast.j9])
                      | succ kj98 =>
                       have H := HA.out
                       clear HA
                       simp only [hinterlandlaw02_LandShiftsLeast.j9] at H
                       by_cases c106 : x223_98 = true
                       ·subst c106
                        have H1 : (some false) = some r := by rw [if_pos rfl] at H; exact H
                        clear H
                        have H := H1
                        clear H1
                        obtain rfl := Option.some.inj H
                        go_wp2
                        go_ret
                        exact ⟨tE_, dL2_ HB GE260 GE276⟩
                       ·replace c106 := Bool.eq_false_iff.mpr c106
                        subst c106
                        have H1 : (hinterlandlaw02_LandShiftsLeast.l1 kj98 l4 t271 x15_17 x17_4 x19_83 (l0_2.length : Int) (wrap64 (x150_5 + 1)) a0_0 a0_1 l0_2 t266 t267 t268) = some r := by rw [if_neg (show ¬ (false = true) by decide)] at H; exact H
                        clear H
                        have H := H1
                        clear H1
                        have H' := Aside0.mk H
                        clear H
                        go_wp2
                        go_roundg kj98
                        case measure => have := HJ17.out; have := HJ31.out; have := HJ56.out; have := HK4.out; have := HK5.out; have := HJ83.out; have := HJ98.out; omega
                        case rel => exact ⟨(x19_83), (wrap64 (x150_5 + 1)), tS_, tS_, H', ⟨by have := HJ17.out; have := HJ31.out; have := HJ56.out; have := HK4.out; have := HK5.out; have := HJ83.out; have := HJ98.out; omega⟩, ⟨by (with_reducible repeat (first | apply Kd.V_alloc | apply Kd.V_drewN | apply Kd.V_drew)); exact HO_4.out⟩, ⟨dR_ HO_12⟩, ⟨dR_ HO_277002⟩, ⟨dB_ BK260⟩, ⟨dB_ BK276⟩, ⟨dL2_ HB GE260 GE276⟩⟩
                  ·rw [if_neg c83] at H
                   exact absurd H (by simp)
                 ·rw [if_neg c82] at H
                  exact absurd H (by simp)
                ·rw [if_neg c81] at H
                 exact absurd H (by simp)
               ·rw [if_neg c80] at H
                have c80b0 : decide (x150_5 < (l0_2.length : Int)) = false := decide_eq_false c80
                clear c80
                by_cases c107 : x19_5 = (t271.length : Int)
                ·rw [if_pos c107] at H
                 have c107b0 : (x19_5 == (t271.length : Int)) = true := beq_iff_eq.mpr c107
                 have c107b1 : (x19_5 != (t271.length : Int)) = false := bne_eq_false_iff_eq.mpr c107
                 clear c107
                 replace H := Option.bind_eq_some_iff.mp H
                 obtain ⟨t294, A1080, H⟩ := H
                 replace H : (some t294) = some r := H
                 have A108 := Aside0.mk A1080
                 clear A1080
                 obtain rfl := Option.some.inj H
                 obtain ⟨Ao109, co109, eo109⟩ := Kd.R_slice HO_12.out
                 subst eo109
                 go_wp2_with (first | (go_at_call 16; (with_reducible refine (hinterlandlaw02_known.calls k5  t294 _ A108.out).mono ?_); rintro e w110 ⟨rfl, hb⟩; replace HO_4 := Aside0.mk (Kd.V_below (by (with_reducible repeat (first | apply Kd.V_alloc | apply Kd.V_drewN | apply Kd.V_drew)); exact HO_4.out) hb); replace HO_12 := Aside0.mk (Kd.R_below (dR_ HO_12) hb); replace HO_277002 := Aside0.mk (Kd.R_below (dR_ HO_277002) hb); replace BK260 := Aside0.mk (blk_below (g := gb260) (o := .cells #[.int .i64 a0_0, .int .i64 a0_1, .slice A0_2 l0_2.length c0_2] 24 (0, 0)) (dB_ BK260) hb); replace BK276 := Aside0.mk (blk_below (g := gb276) (o := .cells #[.int .i64 t266, .int .i64 t267, .slice Ao30 t268.length co30] 24 (0, 0)) (dB_ BK276) hb); replace HB := Aside0.mk (below_step (dL2_ HB GE260 GE276) hb)))
                 go_ret
                 exact ⟨tE_, dL2_ HB GE260 GE276⟩
                ·rw [if_neg c107] at H
                 have c107b0 : (x19_5 == (t271.length : Int)) = false := beq_eq_false_iff_ne.mpr c107
                 have c107b1 : (x19_5 != (t271.length : Int)) = true := bne_iff_ne.mpr c107
                 obtain rfl := Option.some.inj H
                 obtain ⟨Ao111, co111, eo111⟩ := Kd.R_slice HO_12.out
                 subst eo111
                 go_wp2
                 go_ret
                 exact ⟨tE_, dL2_ HB GE260 GE276⟩
  ·rw [if_neg c17] at H
   have c17b0 : (t275 == 0) = false := beq_eq_false_iff_ne.mpr c17
   have c17b1 : (t275 != 0) = true := bne_iff_ne.mpr c17
   have HC112 := Aside0.mk H
   clear H
   go_enter Try.func5, Try.ntmps5
   go_upto_region 5 with (first | ((with_reducible refine gate_dst (N := 5) rfl ?_); (try (refine gate_guard (by rfl) ?_; dsimp only)); refine box_event ?hg (N := 5) ?hd (cs := #[.int .i64 a0_0, .int .i64 a0_1, .slice A0_2 l0_2.length c0_2]) (t := 24) ?hr ?_; (case hd => rfl); (case hg => rfl); (case hr => first | (go_simp; done) | (go_simp; rfl)); intro gb260 hg w113 hbox hb; replace HO4 := Aside0.mk (Kd.V_below (Kd.V_elderB (by (with_reducible repeat (first | apply Kd.V_alloc | apply Kd.V_drewN | apply Kd.V_drew)); exact HO4.out) gb260 (Nat.le_of_eq hg.symm)) hb); have BK260 := Aside0.mk (hbox); have GW260 := Aside0.mk ((dS_ hg (dL_ HB) : w.heap.size ≤ gb260)); have GE260 := Aside0.mk ((dS_ hg (dL_ HB) : w.heap.size ≤ gb260)); replace HB := Aside0.mk (below_step (dL_ HB) hb); clear hb hbox hg; obtain ⟨hcz114_0, hcz114_1, hcz114_2, hfz114_0, hfz114_1, hfz114_2⟩ := cs3_ BK260.out) | ((with_reducible refine gate_dst (N := 23) rfl ?_); (try (refine gate_guard (by rfl) ?_; dsimp only)); refine Kd.N_lit (Kd.slice 3 (Kd.int .i64)) _ 22 ?hg (N' := 23) ?hd (xs := ([l4] : List (List Int))) (inner := [.slice A4 l4.length c4]) (ok := (fun k_ => (P4_ k_ ∨ w.heap.size ≤ k_) ∧ k_ ≠ gb260)) (okp := (fun k_ => (P4_ k_ ∨ w.heap.size ≤ k_) ∧ k_ ≠ gb260)) ?hr ?hp (fun _ hk => hk) ((show ∀ k_, w113.heap.size ≤ k_ → (fun k_ => (P4_ k_ ∨ w.heap.size ≤ k_) ∧ k_ ≠ gb260) k_ from fun k_ hk => ⟨(.inr (Nat.le_trans (below_size (dL1_ HB GE260)) hk)), Kd.freshB (g := gb260) (o := .cells #[.int .i64 a0_0, .int .i64 a0_1, .slice A0_2 l0_2.length c0_2] 24 (0, 0)) (dB_ BK260) k_ hk⟩) _ (Nat.le_refl _)) (Below.refl _ _) (Nat.le_refl _) (by simp) ?_; (case hd => rfl); (case hg => rfl); (case hr => first | (go_simp; done) | (go_simp; rfl)); (case hp => exact (Reps.one (show Kd.FK (Kd.slice 3 (Kd.int .i64)) _ _ l4 [.slice A4 l4.length c4] from (Kd.FK_slice_mk (Kd.V_reads' (Kd.V_mono (ok' := (fun k_ => (P4_ k_ ∨ w.heap.size ≤ k_) ∧ k_ ≠ gb260)) (HO4.out) (fun k_ hk => ⟨hk.1, hk.2⟩))).2.1 (Kd.V_F (Kd.V_mono (ok' := (fun k_ => (P4_ k_ ∨ w.heap.size ≤ k_) ∧ k_ ≠ gb260)) (HO4.out) (fun k_ hk => ⟨hk.1, hk.2⟩))))) (Reps.none _ _))); intro v262 w115 ho116 hb hg_ hnew_; clear hg_ hnew_; (first | rw [← Ny261.out] at ho116 | (simp only [Int.reduceToNat] at ho116; rw [← Ny261.out] at ho116)); replace HO4 := Aside0.mk (Kd.V_elder' (by (with_reducible repeat (first | apply Kd.V_alloc | apply Kd.V_drewN | apply Kd.V_drew)); exact HO4.out) (Kd.N_base ho116) hb); have HO263 := Aside0.mk (Kd.N_lower ho116 (below_size (dL1_ HB GE260))); replace BK260 := Aside0.mk (blk_below (g := gb260) (o := .cells #[.int .i64 a0_0, .int .i64 a0_1, .slice A0_2 l0_2.length c0_2] 24 (0, 0)) (dB_ BK260) hb); replace HB := Aside0.mk (below_step (dL1_ HB GE260) hb); clear hb ho116; obtain ⟨Ao117, co117, eo117⟩ := Kd.N_slice HO263.out; subst eo117) | ((with_reducible refine gate_callee (f := 15) rfl ?_); refine goesL_ (some 24) rfl rfl Try.func15 (by kernel_rfl) rfl #[.agg #[.int .i64 a0_0, .int .i64 a0_1, .slice A0_2 l0_2.length c0_2], .slice Ao117 y261.length co117] rfl tA_ ?_; (with_reducible refine (hinterlandlaw02_large.calls k a0_0 a0_1 _ _ l0_2 _ _ y261 false _ ?side1 ?side2 ?side3 ?side4 A6.out).mono ?_); (case side1 => exact dC_ HR0_2 HB); (case side2 => exact HC0_2.out); (case side3 => repeat (first | exact (Kd.N_reads' HO263.out).2.2 | (with_reducible refine Kd.C_alloc ?_ _) | (with_reducible refine Kd.C_drewN ?_ _) | (with_reducible refine Kd.C_drew ?_))); (case side4 => exact (Kd.N_reads' HO263.out).2.1); rintro e w118 ⟨rfl, hb⟩; refine ⟨_, rfl, ?_⟩; replace HO4 := Aside0.mk (Kd.V_below (by (with_reducible repeat (first | apply Kd.V_alloc | apply Kd.V_drewN | apply Kd.V_drew)); exact HO4.out) hb); replace HO263 := Aside0.mk (Kd.N_below (by (with_reducible repeat (first | apply Kd.N_alloc | apply Kd.N_drewN | apply Kd.N_drew)); exact HO263.out) hb); replace BK260 := Aside0.mk (blk_below (g := gb260) (o := .cells #[.int .i64 a0_0, .int .i64 a0_1, .slice A0_2 l0_2.length c0_2] 24 (0, 0)) (dB_ BK260) hb); replace HB := Aside0.mk (below_step (dL1_ HB GE260) hb); obtain ⟨hcz119_0, hcz119_1, hcz119_2, hfz119_0, hfz119_1, hfz119_2⟩ := cs3_ BK260.out) | ((with_reducible refine gate_callee (f := 19) rfl ?_); refine goesL_ (some 31) rfl rfl Try.func19 (by kernel_rfl) rfl #[.agg #[.int .i64 a0_0, .int .i64 a0_1, .slice A0_2 l0_2.length c0_2], .int .i64 a1, .int .i64 a2, .bool a3, .slice none 0 0] rfl tA_ ?_; (refine (land_Shift.calls k a0_0 a0_1 _ _ l0_2 a1 a2 a3 _ _ ([] : List Int) t266 t267 t268 t271 t274 t275 _ ?side1 ?side2 ?side3 ?side4 A16.out).mono ?_); (case side1 => exact dC_ HR0_2 HB); (case side2 => exact HC0_2.out); (case side3 => exact Kd.C_nil _ _); (case side4 => exact Nat.le_refl _); rintro e w120 ⟨v269, v272, rfl, ho0, ho1, hb⟩; refine ⟨_, rfl, ?_⟩; replace HO4 := Aside0.mk (Kd.V_mono (Kd.V_told (Kd.V_told (Kd.V_old (by (with_reducible repeat (first | apply Kd.V_alloc | apply Kd.V_drewN | apply Kd.V_drew)); exact HO4.out) hb) (Kd.R_base ho0)) (Kd.R_base ho1)) (fun _ h_ => h_.1)); replace HO263 := Aside0.mk (Kd.N_mono (Kd.N_told (Kd.N_told (Kd.N_old (by (with_reducible repeat (first | apply Kd.N_alloc | apply Kd.N_drewN | apply Kd.N_drew)); exact HO263.out) hb) (Kd.R_base ho0)) (Kd.R_base ho1)) (fun _ h_ => h_.1)); have HO270 := Aside0.mk (Kd.R_lower (Kd.R_newM (M := fun k_ => (w.heap.size ≤ k_)) ho0 (below_size (dL1_ HB GE260)) (fun k_ h_ => h_)) (below_size (dL1_ HB GE260))); have HO273 := Aside0.mk (Kd.R_lower (Kd.R_newM (M := fun k_ => (w.heap.size ≤ k_)) ho1 (below_size (dL1_ HB GE260)) (fun k_ h_ => h_)) (below_size (dL1_ HB GE260))); replace BK260 := Aside0.mk (blk_below (g := gb260) (o := .cells #[.int .i64 a0_0, .int .i64 a0_1, .slice A0_2 l0_2.length c0_2] 24 (0, 0)) (dB_ BK260) hb); replace HB := Aside0.mk (below_step (dL1_ HB GE260) hb)) | ((with_reducible refine gate_dst (N := 11) rfl ?_); (try (refine gate_guard (by rfl) ?_; dsimp only)); refine box_event ?hg (N := 11) ?hd (cs := #[.int .i64 0, .int .i64 0, .slice none 0 0]) (t := 24) ?hr ?_; (case hd => rfl); (case hg => rfl); (case hr => first | (go_simp; done) | (go_simp; rfl)); intro gb276 hg w121 hbox hb; replace HO4 := Aside0.mk (Kd.V_below (Kd.V_elderB (by (with_reducible repeat (first | apply Kd.V_alloc | apply Kd.V_drewN | apply Kd.V_drew)); exact HO4.out) gb276 (Nat.le_of_eq hg.symm)) hb); replace HO263 := Aside0.mk (Kd.N_below (Kd.N_elderB (by (with_reducible repeat (first | apply Kd.N_alloc | apply Kd.N_drewN | apply Kd.N_drew)); exact HO263.out) gb276 (Nat.le_of_eq hg.symm)) hb); replace HO270 := Aside0.mk (Kd.R_below (dR_ HO270) hb); replace HO273 := Aside0.mk (Kd.R_below (dR_ HO273) hb); have BK276 := Aside0.mk (hbox); have GW276 := Aside0.mk ((dS_ hg (dL1_ HB GE260) : w.heap.size ≤ gb276)); have GE276 := Aside0.mk ((dS_ hg (dL1_ HB GE260) : w.heap.size ≤ gb276)); replace HB := Aside0.mk (below_step (dL1_ HB GE260) hb); have NB260_276 := Aside0.mk ((by rw [hg]; exact Nat.ne_of_lt (blk_lt (dB_ BK260)) : gb260 ≠ gb276)); have NB276_260 := Aside0.mk ((by rw [hg]; exact Nat.ne_of_gt (blk_lt (dB_ BK260)) : gb276 ≠ gb260)); replace BK260 := Aside0.mk (blk_below (g := gb260) (o := .cells #[.int .i64 a0_0, .int .i64 a0_1, .slice A0_2 l0_2.length c0_2] 24 (0, 0)) (dB_ BK260) hb); clear hb hbox hg; have hnb122 := NB276_260.out; have hnc122 := NB260_276.out; obtain ⟨hcz123_0, hcz123_1, hcz123_2, hfz123_0, hfz123_1, hfz123_2⟩ := cs3_ BK276.out; obtain ⟨Ao124, co124, eo124⟩ := Kd.R_slice HO270.out; subst eo124))
   (try simp only [Act.put, sI_, s0_, sS_])
   go_cut [10] (fun v10 wc => ∃ (kq : Nat) (x10_111 : Bool), v10 = .bool x10_111 ∧ Aside0 (hinterlandlaw02_LandShiftsLeast.j0 kq x10_111 = some r) ∧ Aside0 (kq ≤ k) ∧ Aside0 (Kd.R (Kd.int .i64) 3 wc w.heap.size (fun k_ => (w.heap.size ≤ k_)) (.slice Ao124 t268.length co124) t268) ∧ Aside0 (wc.heap[gb260]? = some (.cells #[.int .i64 a0_0, .int .i64 a0_1, (.slice A0_2 l0_2.length c0_2)] 24 (0, 0))) ∧ Aside0 (wc.heap[gb276]? = some (.cells #[.int .i64 t266, .int .i64 t267, (.slice Ao124 t268.length co124)] 24 (0, 0))) ∧ Aside0 (Below w.heap.size w wc))
   case first => as_aux_lemma =>
    have H := HC112.out
    clear HC112
    refine (Classical.em ((t268.length : Int) = 0)).elim (fun c125 => ?a5_) (fun c125 => ?b5_)
    case' a5_ =>
     rw [if_pos c125] at H
     have c125b0 : ((t268.length : Int) == 0) = true := beq_iff_eq.mpr c125
     have c125b1 : ((t268.length : Int) != 0) = false := bne_eq_false_iff_eq.mpr c125
     clear c125
     (first | rw [c125b0] | (simp only [i64_w, i32_w]; rw [c125b0]) | skip)
     refine (Classical.em ((t271.length : Int) = 0)).elim (fun c126 => ?a6_) (fun c126 => ?b6_)
     case' a6_ =>
      rw [if_pos c126] at H
      have c126b0 : ((t271.length : Int) == 0) = true := beq_iff_eq.mpr c126
      have c126b1 : ((t271.length : Int) != 0) = false := bne_eq_false_iff_eq.mpr c126
      clear c126
      refine (Classical.em (t274 = 0)).elim (fun c127 => ?a7_) (fun c127 => ?b7_)
      case' a7_ =>
       rw [if_pos c127] at H
       have c127b0 : (t274 == 0) = true := beq_iff_eq.mpr c127
       have c127b1 : (t274 != 0) = false := bne_eq_false_iff_eq.mpr c127
       clear c127
       replace H := Option.bind_eq_some_iff.mp H
       obtain ⟨t277, A1280, H⟩ := H
       replace H : (hinterlandlaw02_LandShiftsLeast.j0 k t277) = some r := H
       have A128 := Aside0.mk A1280
       clear A1280
       have H' := Aside0.mk H
       clear H
      case' b7_ =>
       rw [if_neg c127] at H
       have c127b0 : (t274 == 0) = false := beq_eq_false_iff_ne.mpr c127
       have c127b1 : (t274 != 0) = true := bne_iff_ne.mpr c127
       have H' := Aside0.mk H
       clear H
     case' b6_ =>
      rw [if_neg c126] at H
      have c126b0 : ((t271.length : Int) == 0) = false := beq_eq_false_iff_ne.mpr c126
      have c126b1 : ((t271.length : Int) != 0) = true := bne_iff_ne.mpr c126
      have c126b2 : ¬ (t271 = []) := fun h_ => c126 (by rw [h_]; rfl)
      have H' := Aside0.mk H
      clear H
    case' b5_ =>
     rw [if_neg c125] at H
     have c125b0 : ((t268.length : Int) == 0) = false := beq_eq_false_iff_ne.mpr c125
     have c125b1 : ((t268.length : Int) != 0) = true := bne_iff_ne.mpr c125
     have c125b2 : ¬ (t268 = []) := fun h_ => c125 (by rw [h_]; rfl)
     (first | rw [c125b0] | (simp only [i64_w, i32_w]; rw [c125b0]) | skip)
     have H' := Aside0.mk H
     clear H
    all_goals (
     first
     | (have hA_ := A128
        clear hA_
        have hnbz1 := NB276_260.out
        have hncz1 := NB260_276.out
        obtain ⟨hczz1_0, hczz1_1, hczz1_2, hfzz1_0, hfzz1_1, hfzz1_2⟩ := cs3_ BK276.out
        obtain ⟨Aoz1, coz1, eoz1⟩ := Kd.R_slice HO273.out
        subst eoz1)
     | (have hnbz1 := NB276_260.out
        have hncz1 := NB260_276.out
        obtain ⟨hczz1_0, hczz1_1, hczz1_2, hfzz1_0, hfzz1_1, hfzz1_2⟩ := cs3_ BK276.out
        obtain ⟨Aoz1, coz1, eoz1⟩ := Kd.R_slice HO273.out
        subst eoz1
        go_wp2)
     | (have hnbz1 := NB276_260.out
        have hncz1 := NB260_276.out
        obtain ⟨hczz1_0, hczz1_1, hczz1_2, hfzz1_0, hfzz1_1, hfzz1_2⟩ := cs3_ BK276.out
        go_wp2)
     go_wp2_with (first | (go_at_call 16; (with_reducible refine (hinterlandlaw02_known.calls k  t277 _ A128.out).mono ?_); rintro e wz1 ⟨rfl, hb⟩; replace HO4 := Aside0.mk (Kd.V_below (by (with_reducible repeat (first | apply Kd.V_alloc | apply Kd.V_drewN | apply Kd.V_drew)); exact (Kd.V_mono (Kd.V_far (p := ⟨gb276, 2, none⟩) (Kd.V_far (p := ⟨gb276, 1, none⟩) (Kd.V_far (p := ⟨gb276, 0, none⟩) (Kd.V_mono HO4.out (fun k_ hk => (⟨hk, hk.2⟩ : _ ∧ k_ ≠ gb276))) (fun _ hk => hk.2) (.int .i64 t266)) (fun _ hk => hk.2) (.int .i64 t267)) (fun _ hk => hk.2) (.slice Ao124 t268.length co124)) (fun _ h_ => h_.1))) hb); replace HO263 := Aside0.mk (Kd.N_below (by (with_reducible repeat (first | apply Kd.N_alloc | apply Kd.N_drewN | apply Kd.N_drew)); exact (Kd.N_mono (Kd.N_far (p := ⟨gb276, 2, none⟩) (Kd.N_far (p := ⟨gb276, 1, none⟩) (Kd.N_far (p := ⟨gb276, 0, none⟩) (Kd.N_mono HO263.out (fun k_ hk => (⟨hk, hk.2⟩ : _ ∧ k_ ≠ gb276))) (fun _ hk => hk.2) (.int .i64 t266)) (fun _ hk => hk.2) (.int .i64 t267)) (fun _ hk => hk.2) (.slice Ao124 t268.length co124)) (fun _ h_ => h_.1))) hb); replace HO270 := Aside0.mk (Kd.R_below (by (with_reducible repeat (first | apply Kd.R_alloc | apply Kd.R_drewN | apply Kd.R_drew)); exact (Kd.R_mono (Kd.R_far (p := ⟨gb276, 2, none⟩) (Kd.R_far (p := ⟨gb276, 1, none⟩) (Kd.R_far (p := ⟨gb276, 0, none⟩) (Kd.R_types HO270.out BK276.out (by decide)) (fun _ hk => hk.2) (.int .i64 t266)) (fun _ hk => hk.2) (.int .i64 t267)) (fun _ hk => hk.2) (.slice Ao124 t268.length co124)) (fun _ h_ => h_.1))) hb); replace HO273 := Aside0.mk (Kd.R_below (by (with_reducible repeat (first | apply Kd.R_alloc | apply Kd.R_drewN | apply Kd.R_drew)); exact (Kd.R_mono (Kd.R_far (p := ⟨gb276, 2, none⟩) (Kd.R_far (p := ⟨gb276, 1, none⟩) (Kd.R_far (p := ⟨gb276, 0, none⟩) (Kd.R_types HO273.out BK276.out (by decide)) (fun _ hk => hk.2) (.int .i64 t266)) (fun _ hk => hk.2) (.int .i64 t267)) (fun _ hk => hk.2) (.slice Ao124 t268.length co124)) (fun _ h_ => h_.1))) hb); replace BK260 := Aside0.mk (blk_below (g := gb260) (o := .cells #[.int .i64 a0_0, .int .i64 a0_1, .slice A0_2 l0_2.length c0_2] 24 (0, 0)) (by (with_reducible repeat (first | refine blk_drewN ?_ _ | refine blk_drew ?_ | refine blk_alloc ?_ _)); refine blk_far ?_ NB260_276.out _; (with_reducible repeat (first | refine blk_drewN ?_ _ | refine blk_drew ?_ | refine blk_alloc ?_ _)); refine blk_far ?_ NB260_276.out _; (with_reducible repeat (first | refine blk_drewN ?_ _ | refine blk_drew ?_ | refine blk_alloc ?_ _)); refine blk_far ?_ NB260_276.out _; (with_reducible repeat (first | refine blk_drewN ?_ _ | refine blk_drew ?_ | refine blk_alloc ?_ _)); exact BK260.out) hb); replace BK276 := Aside0.mk (blk_below (g := gb276) (o := .cells #[.int .i64 t266, .int .i64 t267, .slice Ao124 t268.length co124] 24 (0, 0)) (by (with_reducible repeat (first | refine blk_drewN ?_ _ | refine blk_drew ?_ | refine blk_alloc ?_ _)); refine blk_put (cs := #[.int .i64 t266, .int .i64 t267, .slice none 0 0]) ?_ 2 _ rfl; (with_reducible repeat (first | refine blk_drewN ?_ _ | refine blk_drew ?_ | refine blk_alloc ?_ _)); refine blk_put (cs := #[.int .i64 t266, .int .i64 0, .slice none 0 0]) ?_ 1 _ rfl; (with_reducible repeat (first | refine blk_drewN ?_ _ | refine blk_drew ?_ | refine blk_alloc ?_ _)); refine blk_put (cs := #[.int .i64 0, .int .i64 0, .slice none 0 0]) ?_ 0 _ rfl; (with_reducible repeat (first | refine blk_drewN ?_ _ | refine blk_drew ?_ | refine blk_alloc ?_ _)); exact BK276.out) hb); replace HB := Aside0.mk (below_step (dL2_ HB GE260 GE276) hb)))
     first
     | (go_meet
        case rel => exact ⟨_, (false), tS_, H', ⟨by first | omega | exact Nat.le_refl _⟩, ⟨by (with_reducible repeat (first | apply Kd.R_alloc | apply Kd.R_drewN | apply Kd.R_drew)); exact Kd.R_mono (Kd.R_far (p := ⟨gb276, 2, none⟩) (Kd.R_far (p := ⟨gb276, 1, none⟩) (Kd.R_far (p := ⟨gb276, 0, none⟩) (Kd.R_types HO270.out BK276.out (by decide)) (fun _ hk => hk.2) (.int .i64 t266)) (fun _ hk => hk.2) (.int .i64 t267)) (fun _ hk => hk.2) (.slice Ao124 t268.length co124)) (fun _ hk => hk.1.1)⟩, ⟨by (with_reducible repeat (first | refine blk_drewN ?_ _ | refine blk_drew ?_ | refine blk_alloc ?_ _)); refine blk_far ?_ NB260_276.out _; (with_reducible repeat (first | refine blk_drewN ?_ _ | refine blk_drew ?_ | refine blk_alloc ?_ _)); refine blk_far ?_ NB260_276.out _; (with_reducible repeat (first | refine blk_drewN ?_ _ | refine blk_drew ?_ | refine blk_alloc ?_ _)); refine blk_far ?_ NB260_276.out _; (with_reducible repeat (first | refine blk_drewN ?_ _ | refine blk_drew ?_ | refine blk_alloc ?_ _)); exact BK260.out⟩, ⟨by (with_reducible repeat (first | refine blk_drewN ?_ _ | refine blk_drew ?_ | refine blk_alloc ?_ _)); refine blk_put (cs := #[.int .i64 t266, .int .i64 t267, .slice none 0 0]) ?_ 2 _ rfl; (with_reducible repeat (first | refine blk_drewN ?_ _ | refine blk_drew ?_ | refine blk_alloc ?_ _)); refine blk_put (cs := #[.int .i64 t266, .int .i64 0, .slice none 0 0]) ?_ 1 _ rfl; (with_reducible repeat (first | refine blk_drewN ?_ _ | refine blk_drew ?_ | refine blk_alloc ?_ _)); refine blk_put (cs := #[.int .i64 0, .int .i64 0, .slice none 0 0]) ?_ 0 _ rfl; (with_reducible repeat (first | refine blk_drewN ?_ _ | refine blk_drew ?_ | refine blk_alloc ?_ _)); exact BK276.out⟩, ⟨dL2_ HB GE260 GE276⟩⟩)
     | (go_meet
        case rel => exact ⟨_, (t277), tS_, H', ⟨by first | omega | exact Nat.le_refl _⟩, ⟨by (with_reducible repeat (first | apply Kd.R_alloc | apply Kd.R_drewN | apply Kd.R_drew)); exact Kd.R_mono HO270.out (fun _ hk => hk.1)⟩, ⟨dB_ BK260⟩, ⟨dB_ BK276⟩, ⟨dL2_ HB GE260 GE276⟩⟩))
   case rest => as_aux_lemma =>
    clear HC112
    try clear c4
    try clear c17
    try clear c17b0
    try clear c17b1
    try clear c80
    try clear c81
    try clear c82
    try clear c83
    try clear c88
    try clear c92
    try clear c93
    try clear c101
    try clear c102
    try clear c103
    try clear c107
    try clear c125
    try clear c126
    try clear c127
    try clear hcz114_0
    try clear hcz114_1
    try clear hcz114_2
    try clear hcz119_0
    try clear hcz119_1
    try clear hcz119_2
    try clear hcz123_0
    try clear hcz123_1
    try clear hcz123_2
    try clear hfz114_0
    try clear hfz114_1
    try clear hfz114_2
    try clear hfz119_0
    try clear hfz119_1
    try clear hfz119_2
    try clear hfz123_0
    try clear hfz123_1
    try clear hfz123_2
    obtain ⟨kq, x10_111, rfl, HA, HJ111, HO_277002, BK260, BK276, HB⟩ := hcut
    cases kq with
    | zero => exact absurd HA.out (by simp [hinterlandlaw02_LandShiftsLeast.j0])
    | succ kj111 =>
     have H := HA.out
     clear HA
     simp only [hinterlandlaw02_LandShiftsLeast.j0] at H
     obtain rfl := Option.some.inj H
     go_wp2
     go_ret
     exact ⟨tE_, dL2_ HB GE260 GE276⟩

/-- THE ONE PURE STATEMENT of hinterlandlaw02_LandShiftsLeast. -/
def hinterlandlaw02_LandShiftsLeast.Pure : Prop := ∀ (a0_0 : Int) (a0_1 : Int) (l0_2 : List Int) (a1 : Int) (a2 : Int) (a3 : Bool) (l4 : List Int), (wInt .i64) a0_0 → (wInt .i64) a0_1 → (wRow (wInt .i64)) l0_2 → (wInt .i64) a1 → (wInt .i64) a2 → wBool a3 → (wRow (wInt .i64)) l4 → ∃ k, hinterlandlaw02_LandShiftsLeast.f k a0_0 a0_1 l0_2 a1 a2 a3 l4 = some true

end Go.Proofs.Ytchflcnegpnkkaa.Q
