-- PRINTED by print.py (a twelfth state) out of the translation. Not trusted: Lean checks it.
import Derived.Test.YtchflcnegpnkkaaPrs
import Derived.Test.YtchflcnegpnkkaaQ0
import Derived.Test.YtchflcnegpnkkaaQ11
import Derived.Test.YtchflcnegpnkkaaQ12
import Derived.Test.YtchflcnegpnkkaaQ15
namespace Go.Proofs.Ytchflcnegpnkkaa.Q
open Go.RowKit Go.Proofs.YtchflcnegpnkkaaPrs Go.Proofs.YtchflcnegpnkkaaOwn Go.Proofs.YtchflcnegpnkkaaW.PrintWords Go.Proofs.YtchflcnegpnkkaaW.PrintLast Go.Proofs.YtchflcnegpnkkaaW.PrintMore
attribute [local go_sem] max2_int min2_int max_two min_two max_three min_three max_four min_four   -- for this text's walks alone
set_option linter.unusedVariables false
set_option linter.unusedSimpArgs false

/-! ### hinterlandref02_Shift: function 20 -/
mutual
def hinterlandref02_Shift.j0 : Nat → Int → Int → Bool → List Int → Bool → Int → Int → List Int → Option (Int × Int × List Int × (List (S36)) × Int × Int)
  | 0, _, _, _, _, _, _, _, _ => none
  | k + 1, x1, x2, x3, x4, x50, x205000, x205001, x205002 => if x50 = true then (some (0, 0, ([] : List Int), ([] : List (S36)), 0, 2)) else (if 0 ≤ (wrap64 ((wrap64 (x2 * (wrap64 (x205000 + 1)))) + x1)) then (if (wrap64 ((wrap64 (x2 * (wrap64 (x205000 + 1)))) + x1)) < (x205002.length : Int) then (if x3 = true then (hinterlandref02_Shift.j1 k x1 x2 x3 x4 (wrap64 ((rd x205002 (wrap64 ((wrap64 (x2 * (wrap64 (x205000 + 1)))) + x1))) + 1)) x205000 x205001 x205002) else (hinterlandref02_Shift.j1 k x1 x2 x3 x4 (wrap64 ((rd x205002 (wrap64 ((wrap64 (x2 * (wrap64 (x205000 + 1)))) + x1))) - 1)) x205000 x205001 x205002)) else (none)) else (none))
def hinterlandref02_Shift.j1 : Nat → Int → Int → Bool → List Int → Int → Int → Int → List Int → Option (Int × Int × List Int × (List (S36)) × Int × Int)
  | 0, _, _, _, _, _, _, _, _ => none
  | k + 1, x1, x2, x3, x4, x15, x205000, x205001, x205002 => if x15 < 0 then (hinterlandref02_Shift.j2 k x1 x2 x3 x4 x15 true x205000 x205001 x205002) else (hinterlandref02_Shift.j2 k x1 x2 x3 x4 x15 (decide (x15 > 15)) x205000 x205001 x205002)
def hinterlandref02_Shift.j2 : Nat → Int → Int → Bool → List Int → Int → Bool → Int → Int → List Int → Option (Int × Int × List Int × (List (S36)) × Int × Int)
  | 0, _, _, _, _, _, _, _, _, _ => none
  | k + 1, x1, x2, x3, x4, x15, x73, x205000, x205001, x205002 => if x73 = true then (some (0, 0, ([] : List Int), ([] : List (S36)), 0, 6)) else (hinterlandref02_Shift.l0 k x1 x2 x3 x4 x15 ([] : List (S36)) 0 x205002 (x205002.length : Int) 0 x205000 x205001 x205002 x205000 x205001 ([] : List Int))
def hinterlandref02_Shift.l0 : Nat → Int → Int → Bool → List Int → Int → List (S36) → Int → List Int → Int → Int → Int → Int → List Int → Int → Int → List Int → Option (Int × Int × List Int × (List (S36)) × Int × Int)
  | 0, _, _, _, _, _, _, _, _, _, _, _, _, _, _, _, _ => none
  | k + 1, x1, x2, x3, x4, x15, x17, x18, x81, x82, x83, x205000, x205001, x205002, x209000, x209001, x209002 => if x83 < x82 then (if 0 ≤ x83 then (if x83 < (x81.length : Int) then (if (wrap64 (x205000 + 1)) = 0 then (none) else ((hinterlandref02_Apart.f x1 (Int.tmod x83 (wrap64 (x205000 + 1)))).bind fun t210 => ((hinterlandref02_Apart.f x2 (wrap64 (Int.tdiv x83 (wrap64 (x205000 + 1))))).bind fun t211 => (if x3 = true then (hinterlandref02_Shift.j4 k x1 x2 x3 x4 x15 x17 x18 (rd x81 x83) (Int.tmod x83 (wrap64 (x205000 + 1))) (wrap64 (Int.tdiv x83 (wrap64 (x205000 + 1)))) (mx (rd x81 x83) (wrap64 (x15 - (wrap64 (t210 + t211))))) x81 x82 x83 x205000 x205001 x205002 x209000 x209001 x209002) else (hinterlandref02_Shift.j4 k x1 x2 x3 x4 x15 x17 x18 (rd x81 x83) (Int.tmod x83 (wrap64 (x205000 + 1))) (wrap64 (Int.tdiv x83 (wrap64 (x205000 + 1)))) (mn (rd x81 x83) (wrap64 (x15 + (wrap64 (t210 + t211))))) x81 x82 x83 x205000 x205001 x205002 x209000 x209001 x209002))))) else (none)) else (none)) else (hinterlandref02_Shift.l1 k x4 x17 x18 x17 (x17.length : Int) 0 x205000 x205001 x205002 x209000 x209001 x209002)
def hinterlandref02_Shift.j4 : Nat → Int → Int → Bool → List Int → Int → List (S36) → Int → Int → Int → Int → Int → List Int → Int → Int → Int → Int → List Int → Int → Int → List Int → Option (Int × Int × List Int × (List (S36)) × Int × Int)
  | 0, _, _, _, _, _, _, _, _, _, _, _, _, _, _, _, _, _, _, _, _ => none
  | k + 1, x1, x2, x3, x4, x15, x17, x18, x20, x21, x22, x24, x81, x82, x83, x205000, x205001, x205002, x209000, x209001, x209002 => if x209002.length < 17592186044416 then ((some (x209002 ++ [x24] : List Int)).bind fun y212 => (if x24 = x20 then (hinterlandref02_Shift.l0 k x1 x2 x3 x4 x15 x17 x18 x81 x82 (wrap64 (x83 + 1)) x205000 x205001 x205002 x209000 x209001 y212) else (if x17.length < 5864062014805 then ((hinterlandref02_Apart.f x24 x20).bind fun t218 => (hinterlandref02_Shift.l0 k x1 x2 x3 x4 x15 (x17 ++ [(⟨x21, x22, x24⟩ : S36)]) (wrap64 (x18 + (wrap64 (250 * t218)))) x81 x82 (wrap64 (x83 + 1)) x205000 x205001 x205002 x209000 x209001 y212)) else (none)))) else (none)
def hinterlandref02_Shift.l1 : Nat → List Int → List (S36) → Int → List (S36) → Int → Int → Int → Int → List Int → Int → Int → List Int → Option (Int × Int × List Int × (List (S36)) × Int × Int)
  | 0, _, _, _, _, _, _, _, _, _, _, _, _ => none
  | k + 1, x4, x17, x18, x140, x141, x142, x205000, x205001, x205002, x209000, x209001, x209002 => if x142 < x141 then (if 0 ≤ x142 then (if x142 < (x140.length : Int) then ((hinterlandref02_held.f k x205000 x205001 x205002 (wrap64 ((wrap64 (((rd_T36 x140 x142).f1) * (wrap64 (x205000 + 1)))) + ((rd_T36 x140 x142).f0))) x4).bind fun t221 => (if t221 = true then (some (0, 0, ([] : List Int), ([] : List (S36)), 0, 7)) else (hinterlandref02_Shift.l1 k x4 x17 x18 x140 x141 (wrap64 (x142 + 1)) x205000 x205001 x205002 x209000 x209001 x209002))) else (none)) else (none)) else (some (x209000, x209001, x209002, x17, x18, 0))
end
def hinterlandref02_Shift.f (k : Nat) (a0_0 : Int) (a0_1 : Int) (l0_2 : List Int) (a1 : Int) (a2 : Int) (a3 : Bool) (l4 : List Int) : Option (Int × Int × List Int × (List (S36)) × Int × Int) := (hinterlandref02_Validate.f k a0_0 a0_1 l0_2).bind fun t206 => (if t206 = 0 then (if a1 < 0 then (hinterlandref02_Shift.j0 k a1 a2 a3 l4 true a0_0 a0_1 l0_2) else (if a1 > a0_0 then (hinterlandref02_Shift.j0 k a1 a2 a3 l4 true a0_0 a0_1 l0_2) else (if a2 < 0 then (hinterlandref02_Shift.j0 k a1 a2 a3 l4 true a0_0 a0_1 l0_2) else (hinterlandref02_Shift.j0 k a1 a2 a3 l4 (decide (a2 > a0_1)) a0_0 a0_1 l0_2)))) else (some (0, 0, ([] : List Int), ([] : List (S36)), 0, t206)))
theorem hinterlandref02_Shift.mono_l : ∀ k, (∀ y0 y1 y2 y3 y4 y5 y6 y7, LeO (hinterlandref02_Shift.j0 k y0 y1 y2 y3 y4 y5 y6 y7) (hinterlandref02_Shift.j0 (k + 1) y0 y1 y2 y3 y4 y5 y6 y7)) ∧ (∀ y0 y1 y2 y3 y4 y5 y6 y7, LeO (hinterlandref02_Shift.j1 k y0 y1 y2 y3 y4 y5 y6 y7) (hinterlandref02_Shift.j1 (k + 1) y0 y1 y2 y3 y4 y5 y6 y7)) ∧ (∀ y0 y1 y2 y3 y4 y5 y6 y7 y8, LeO (hinterlandref02_Shift.j2 k y0 y1 y2 y3 y4 y5 y6 y7 y8) (hinterlandref02_Shift.j2 (k + 1) y0 y1 y2 y3 y4 y5 y6 y7 y8)) ∧ (∀ y0 y1 y2 y3 y4 y5 y6 y7 y8 y9 y10 y11 y12 y13 y14 y15, LeO (hinterlandref02_Shift.l0 k y0 y1 y2 y3 y4 y5 y6 y7 y8 y9 y10 y11 y12 y13 y14 y15) (hinterlandref02_Shift.l0 (k + 1) y0 y1 y2 y3 y4 y5 y6 y7 y8 y9 y10 y11 y12 y13 y14 y15)) ∧ (∀ y0 y1 y2 y3 y4 y5 y6 y7 y8 y9 y10 y11 y12 y13 y14 y15 y16 y17 y18 y19, LeO (hinterlandref02_Shift.j4 k y0 y1 y2 y3 y4 y5 y6 y7 y8 y9 y10 y11 y12 y13 y14 y15 y16 y17 y18 y19) (hinterlandref02_Shift.j4 (k + 1) y0 y1 y2 y3 y4 y5 y6 y7 y8 y9 y10 y11 y12 y13 y14 y15 y16 y17 y18 y19)) ∧ (∀ y0 y1 y2 y3 y4 y5 y6 y7 y8 y9 y10 y11, LeO (hinterlandref02_Shift.l1 k y0 y1 y2 y3 y4 y5 y6 y7 y8 y9 y10 y11) (hinterlandref02_Shift.l1 (k + 1) y0 y1 y2 y3 y4 y5 y6 y7 y8 y9 y10 y11))
  | 0 => ⟨fun _ _ _ _ _ _ _ _ r h => by simp [hinterlandref02_Shift.j0] at h, fun _ _ _ _ _ _ _ _ r h => by simp [hinterlandref02_Shift.j1] at h, fun _ _ _ _ _ _ _ _ _ r h => by simp [hinterlandref02_Shift.j2] at h, fun _ _ _ _ _ _ _ _ _ _ _ _ _ _ _ _ r h => by simp [hinterlandref02_Shift.l0] at h, fun _ _ _ _ _ _ _ _ _ _ _ _ _ _ _ _ _ _ _ _ r h => by simp [hinterlandref02_Shift.j4] at h, fun _ _ _ _ _ _ _ _ _ _ _ _ r h => by simp [hinterlandref02_Shift.l1] at h⟩
  | k + 1 => by
    obtain ⟨ih0, ih1, ih2, ih3, ih4, ih5⟩ := hinterlandref02_Shift.mono_l k
    refine ⟨?_, ?_, ?_, ?_, ?_, ?_⟩
    · intro y0 y1 y2 y3 y4 y5 y6 y7
      unfold hinterlandref02_Shift.j0
      repeat' first
      | (with_reducible first | exact ih0 _ _ _ _ _ _ _ _ | exact ih1 _ _ _ _ _ _ _ _ | exact ih2 _ _ _ _ _ _ _ _ _ | exact ih3 _ _ _ _ _ _ _ _ _ _ _ _ _ _ _ _ | exact ih4 _ _ _ _ _ _ _ _ _ _ _ _ _ _ _ _ _ _ _ _ | exact ih5 _ _ _ _ _ _ _ _ _ _ _ _ | exact hinterlandref02_Validate.mono _ _ _ _ | exact hinterlandref02_held.mono _ _ _ _ _ _ | exact LeO.refl _ | exact LeO.none _ | refine LeO.ite ?_ ?_ | refine LeO.bind ?_ (fun _ => ?_))
      | exact ih0 _ _ _ _ _ _ _ _
      | exact ih1 _ _ _ _ _ _ _ _
      | exact ih2 _ _ _ _ _ _ _ _ _
      | exact ih3 _ _ _ _ _ _ _ _ _ _ _ _ _ _ _ _
      | exact ih4 _ _ _ _ _ _ _ _ _ _ _ _ _ _ _ _ _ _ _ _
      | exact ih5 _ _ _ _ _ _ _ _ _ _ _ _
      | exact hinterlandref02_Validate.mono _ _ _ _
      | exact hinterlandref02_held.mono _ _ _ _ _ _
      | exact LeO.none _
      | refine LeO.ite ?_ ?_
      | refine LeO.bind ?_ (fun _ => ?_)
    · intro y0 y1 y2 y3 y4 y5 y6 y7
      unfold hinterlandref02_Shift.j1
      repeat' first
      | (with_reducible first | exact ih0 _ _ _ _ _ _ _ _ | exact ih1 _ _ _ _ _ _ _ _ | exact ih2 _ _ _ _ _ _ _ _ _ | exact ih3 _ _ _ _ _ _ _ _ _ _ _ _ _ _ _ _ | exact ih4 _ _ _ _ _ _ _ _ _ _ _ _ _ _ _ _ _ _ _ _ | exact ih5 _ _ _ _ _ _ _ _ _ _ _ _ | exact hinterlandref02_Validate.mono _ _ _ _ | exact hinterlandref02_held.mono _ _ _ _ _ _ | exact LeO.refl _ | exact LeO.none _ | refine LeO.ite ?_ ?_ | refine LeO.bind ?_ (fun _ => ?_))
      | exact ih0 _ _ _ _ _ _ _ _
      | exact ih1 _ _ _ _ _ _ _ _
      | exact ih2 _ _ _ _ _ _ _ _ _
      | exact ih3 _ _ _ _ _ _ _ _ _ _ _ _ _ _ _ _
      | exact ih4 _ _ _ _ _ _ _ _ _ _ _ _ _ _ _ _ _ _ _ _
      | exact ih5 _ _ _ _ _ _ _ _ _ _ _ _
      | exact hinterlandref02_Validate.mono _ _ _ _
      | exact hinterlandref02_held.mono _ _ _ _ _ _
      | exact LeO.none _
      | refine LeO.ite ?_ ?_
      | refine LeO.bind ?_ (fun _ => ?_)
    · intro y0 y1 y2 y3 y4 y5 y6 y7 y8
      unfold hinterlandref02_Shift.j2
      repeat' first
      | (with_reducible first | exact ih0 _ _ _ _ _ _ _ _ | exact ih1 _ _ _ _ _ _ _ _ | exact ih2 _ _ _ _ _ _ _ _ _ | exact ih3 _ _ _ _ _ _ _ _ _ _ _ _ _ _ _ _ | exact ih4 _ _ _ _ _ _ _ _ _ _ _ _ _ _ _ _ _ _ _ _ | exact ih5 _ _ _ _ _ _ _ _ _ _ _ _ | exact hinterlandref02_Validate.mono _ _ _ _ | exact hinterlandref02_held.mono _ _ _ _ _ _ | exact LeO.refl _ | exact LeO.none _ | refine LeO.ite ?_ ?_ | refine LeO.bind ?_ (fun _ => ?_))
      | exact ih0 _ _ _ _ _ _ _ _
      | exact ih1 _ _ _ _ _ _ _ _
      | exact ih2 _ _ _ _ _ _ _ _ _
      | exact ih3 _ _ _ _ _ _ _ _ _ _ _ _ _ _ _ _
      | exact ih4 _ _ _ _ _ _ _ _ _ _ _ _ _ _ _ _ _ _ _ _
      | exact ih5 _ _ _ _ _ _ _ _ _ _ _ _
      | exact hinterlandref02_Validate.mono _ _ _ _
      | exact hinterlandref02_held.mono _ _ _ _ _ _
      | exact LeO.none _
      | refine LeO.ite ?_ ?_
      | refine LeO.bind ?_ (fun _ => ?_)
    · intro y0 y1 y2 y3 y4 y5 y6 y7 y8 y9 y10 y11 y12 y13 y14 y15
      unfold hinterlandref02_Shift.l0
      repeat' first
      | (with_reducible first | exact ih0 _ _ _ _ _ _ _ _ | exact ih1 _ _ _ _ _ _ _ _ | exact ih2 _ _ _ _ _ _ _ _ _ | exact ih3 _ _ _ _ _ _ _ _ _ _ _ _ _ _ _ _ | exact ih4 _ _ _ _ _ _ _ _ _ _ _ _ _ _ _ _ _ _ _ _ | exact ih5 _ _ _ _ _ _ _ _ _ _ _ _ | exact hinterlandref02_Validate.mono _ _ _ _ | exact hinterlandref02_held.mono _ _ _ _ _ _ | exact LeO.refl _ | exact LeO.none _ | refine LeO.ite ?_ ?_ | refine LeO.bind ?_ (fun _ => ?_))
      | exact ih0 _ _ _ _ _ _ _ _
      | exact ih1 _ _ _ _ _ _ _ _
      | exact ih2 _ _ _ _ _ _ _ _ _
      | exact ih3 _ _ _ _ _ _ _ _ _ _ _ _ _ _ _ _
      | exact ih4 _ _ _ _ _ _ _ _ _ _ _ _ _ _ _ _ _ _ _ _
      | exact ih5 _ _ _ _ _ _ _ _ _ _ _ _
      | exact hinterlandref02_Validate.mono _ _ _ _
      | exact hinterlandref02_held.mono _ _ _ _ _ _
      | exact LeO.none _
      | refine LeO.ite ?_ ?_
      | refine LeO.bind ?_ (fun _ => ?_)
    · intro y0 y1 y2 y3 y4 y5 y6 y7 y8 y9 y10 y11 y12 y13 y14 y15 y16 y17 y18 y19
      unfold hinterlandref02_Shift.j4
      repeat' first
      | (with_reducible first | exact ih0 _ _ _ _ _ _ _ _ | exact ih1 _ _ _ _ _ _ _ _ | exact ih2 _ _ _ _ _ _ _ _ _ | exact ih3 _ _ _ _ _ _ _ _ _ _ _ _ _ _ _ _ | exact ih4 _ _ _ _ _ _ _ _ _ _ _ _ _ _ _ _ _ _ _ _ | exact ih5 _ _ _ _ _ _ _ _ _ _ _ _ | exact hinterlandref02_Validate.mono _ _ _ _ | exact hinterlandref02_held.mono _ _ _ _ _ _ | exact LeO.refl _ | exact LeO.none _ | refine LeO.ite ?_ ?_ | refine LeO.bind ?_ (fun _ => ?_))
      | exact ih0 _ _ _ _ _ _ _ _
      | exact ih1 _ _ _ _ _ _ _ _
      | exact ih2 _ _ _ _ _ _ _ _ _
      | exact ih3 _ _ _ _ _ _ _ _ _ _ _ _ _ _ _ _
      | exact ih4 _ _ _ _ _ _ _ _ _ _ _ _ _ _ _ _ _ _ _ _
      | exact ih5 _ _ _ _ _ _ _ _ _ _ _ _
      | exact hinterlandref02_Validate.mono _ _ _ _
      | exact hinterlandref02_held.mono _ _ _ _ _ _
      | exact LeO.none _
      | refine LeO.ite ?_ ?_
      | refine LeO.bind ?_ (fun _ => ?_)
    · intro y0 y1 y2 y3 y4 y5 y6 y7 y8 y9 y10 y11
      unfold hinterlandref02_Shift.l1
      repeat' first
      | (with_reducible first | exact ih0 _ _ _ _ _ _ _ _ | exact ih1 _ _ _ _ _ _ _ _ | exact ih2 _ _ _ _ _ _ _ _ _ | exact ih3 _ _ _ _ _ _ _ _ _ _ _ _ _ _ _ _ | exact ih4 _ _ _ _ _ _ _ _ _ _ _ _ _ _ _ _ _ _ _ _ | exact ih5 _ _ _ _ _ _ _ _ _ _ _ _ | exact hinterlandref02_Validate.mono _ _ _ _ | exact hinterlandref02_held.mono _ _ _ _ _ _ | exact LeO.refl _ | exact LeO.none _ | refine LeO.ite ?_ ?_ | refine LeO.bind ?_ (fun _ => ?_))
      | exact ih0 _ _ _ _ _ _ _ _
      | exact ih1 _ _ _ _ _ _ _ _
      | exact ih2 _ _ _ _ _ _ _ _ _
      | exact ih3 _ _ _ _ _ _ _ _ _ _ _ _ _ _ _ _
      | exact ih4 _ _ _ _ _ _ _ _ _ _ _ _ _ _ _ _ _ _ _ _
      | exact ih5 _ _ _ _ _ _ _ _ _ _ _ _
      | exact hinterlandref02_Validate.mono _ _ _ _
      | exact hinterlandref02_held.mono _ _ _ _ _ _
      | exact LeO.none _
      | refine LeO.ite ?_ ?_
      | refine LeO.bind ?_ (fun _ => ?_)
theorem hinterlandref02_Shift.mono : ∀ a0 a1 a2 a3 a4 a5 a6 k, LeO (hinterlandref02_Shift.f k a0 a1 a2 a3 a4 a5 a6) (hinterlandref02_Shift.f (k + 1) a0 a1 a2 a3 a4 a5 a6) := by
  intro a0 a1 a2 a3 a4 a5 a6 k
  obtain ⟨ih0, ih1, ih2, ih3, ih4, ih5⟩ := hinterlandref02_Shift.mono_l k
  unfold hinterlandref02_Shift.f
  repeat' first
      | (with_reducible first | exact ih0 _ _ _ _ _ _ _ _ | exact ih1 _ _ _ _ _ _ _ _ | exact ih2 _ _ _ _ _ _ _ _ _ | exact ih3 _ _ _ _ _ _ _ _ _ _ _ _ _ _ _ _ | exact ih4 _ _ _ _ _ _ _ _ _ _ _ _ _ _ _ _ _ _ _ _ | exact ih5 _ _ _ _ _ _ _ _ _ _ _ _ | exact hinterlandref02_Validate.mono _ _ _ _ | exact hinterlandref02_held.mono _ _ _ _ _ _ | exact LeO.refl _ | exact LeO.none _ | refine LeO.ite ?_ ?_ | refine LeO.bind ?_ (fun _ => ?_))
      | exact ih0 _ _ _ _ _ _ _ _
      | exact ih1 _ _ _ _ _ _ _ _
      | exact ih2 _ _ _ _ _ _ _ _ _
      | exact ih3 _ _ _ _ _ _ _ _ _ _ _ _ _ _ _ _
      | exact ih4 _ _ _ _ _ _ _ _ _ _ _ _ _ _ _ _ _ _ _ _
      | exact ih5 _ _ _ _ _ _ _ _ _ _ _ _
      | exact hinterlandref02_Validate.mono _ _ _ _
      | exact hinterlandref02_held.mono _ _ _ _ _ _
      | exact LeO.none _
      | refine LeO.ite ?_ ?_
      | refine LeO.bind ?_ (fun _ => ?_)
set_option maxHeartbeats 8000000 in
set_option maxRecDepth 100000 in
theorem hinterlandref02_Shift.calls (k : Nat) (a0_0 : Int) (a0_1 : Int) (A0_2 : Option Addr) (c0_2 : Nat) (l0_2 : List Int) (a1 : Int) (a2 : Int) (a3 : Bool) (A4 : Option Addr) (c4 : Nat) (l4 : List Int) (r1 : Int) (r2 : Int) (r3 : List Int) (r4 : List (S36)) (r5 : Int) (r6 : Int) (w : World) (hr0_2 : Kd.C (Kd.int .i64) w A0_2 l0_2.length l0_2) (hc0_2 : l0_2.length ≤ c0_2) (hr4 : Kd.C (Kd.int .i64) w A4 l4.length l4) (hc4 : l4.length ≤ c4) (h : hinterlandref02_Shift.f k a0_0 a0_1 l0_2 a1 a2 a3 l4 = some (r1, r2, r3, r4, r5, r6)) :
    Calls Try.prog 20 #[.agg #[.int .i64 a0_0, .int .i64 a0_1, .slice A0_2 l0_2.length c0_2], .int .i64 a1, .int .i64 a2, .bool a3, .slice A4 l4.length c4] w fun e w' => ∃ v2_ v3_ : Value, e = .returned (.tuple #[.agg #[.int .i64 r1, .int .i64 r2, v2_], v3_, .int .i64 r5, .int .i64 r6]) ∧ Kd.R (Kd.int .i64) 3 w' w.heap.size (fun _ => True) v2_ r3 ∧ Kd.R k36 36 w' w.heap.size (fun _ => True) v3_ r4 ∧ Below w.heap.size w w' := by
 have hu24 := Try.underlying24
 have hu36 := Try.underlying36
 have HR0_2 := Aside0.mk hr0_2
 have HC0_2 := Aside0.mk hc0_2
 clear hr0_2 hc0_2
 have HR4 := Aside0.mk hr4
 have HC4 := Aside0.mk hc4
 clear hr4 hc4
 have HB := Aside0.mk (Below.refl w.heap.size w)
 have H : ((hinterlandref02_Validate.f k a0_0 a0_1 l0_2).bind fun t206 => (if t206 = 0 then (if a1 < 0 then (hinterlandref02_Shift.j0 k a1 a2 a3 l4 true a0_0 a0_1 l0_2) else (if a1 > a0_0 then (hinterlandref02_Shift.j0 k a1 a2 a3 l4 true a0_0 a0_1 l0_2) else (if a2 < 0 then (hinterlandref02_Shift.j0 k a1 a2 a3 l4 true a0_0 a0_1 l0_2) else (hinterlandref02_Shift.j0 k a1 a2 a3 l4 (decide (a2 > a0_1)) a0_0 a0_1 l0_2)))) else (some (0, 0, ([] : List Int), ([] : List (S36)), 0, t206)))) = some (r1, r2, r3, r4, r5, r6) := h
 clear h
 replace H := Option.bind_eq_some_iff.mp H
 obtain ⟨t206, A60, H⟩ := H
 replace H : (if t206 = 0 then (if a1 < 0 then (hinterlandref02_Shift.j0 k a1 a2 a3 l4 true a0_0 a0_1 l0_2) else (if a1 > a0_0 then (hinterlandref02_Shift.j0 k a1 a2 a3 l4 true a0_0 a0_1 l0_2) else (if a2 < 0 then (hinterlandref02_Shift.j0 k a1 a2 a3 l4 true a0_0 a0_1 l0_2) else (hinterlandref02_Shift.j0 k a1 a2 a3 l4 (decide (a2 > a0_1)) a0_0 a0_1 l0_2)))) else (some (0, 0, ([] : List Int), ([] : List (S36)), 0, t206))) = some (r1, r2, r3, r4, r5, r6) := H
 have A6 := Aside0.mk A60
 clear A60
 by_cases c7 : t206 = 0
 ·rw [if_pos c7] at H
  have c7b0 : (t206 == 0) = true := beq_iff_eq.mpr c7
  have c7b1 : (t206 != 0) = false := bne_eq_false_iff_eq.mpr c7
  clear c7
  have HC8 := Aside0.mk H
  clear H
  go_enter Try.func20, Try.ntmps20
  go_upto_region 4 with (first | ((with_reducible refine gate_dst (N := 5) rfl ?_); refine box_event ?hg (N := 5) ?hd (cs := #[.int .i64 a0_0, .int .i64 a0_1, .slice A0_2 l0_2.length c0_2]) (t := 24) ?hr ?_; (case hd => rfl); (case hg => rfl); (case hr => first | (go_simp; done) | (go_simp; rfl)); intro gb204 hg w9 hbox hb; have BK204 := Aside0.mk (hbox); have GW204 := Aside0.mk ((dS_ hg (dL_ HB) : w.heap.size ≤ gb204)); have GE204 := Aside0.mk ((dS_ hg (dL_ HB) : w.heap.size ≤ gb204)); replace HB := Aside0.mk (below_step (dL_ HB) hb); clear hb hbox hg) | ((with_reducible refine gate_dst (N := 10) rfl ?_); refine box_event ?hg (N := 10) ?hd (cs := #[.int .i64 0, .int .i64 0, .slice none 0 0]) (t := 24) ?hr ?_; (case hd => rfl); (case hg => rfl); (case hr => first | (go_simp; done) | (go_simp; rfl)); intro gb205 hg w10 hbox hb; have BK205 := Aside0.mk (hbox); have GW205 := Aside0.mk ((dS_ hg (dL1_ HB GE204) : w.heap.size ≤ gb205)); have GE205 := Aside0.mk ((dS_ hg (dL1_ HB GE204) : w.heap.size ≤ gb205)); replace HB := Aside0.mk (below_step (dL1_ HB GE204) hb); have NB204_205 := Aside0.mk ((by rw [hg]; exact Nat.ne_of_lt (blk_lt (dB_ BK204)) : gb204 ≠ gb205)); have NB205_204 := Aside0.mk ((by rw [hg]; exact Nat.ne_of_gt (blk_lt (dB_ BK204)) : gb205 ≠ gb204)); replace BK204 := Aside0.mk (blk_below (g := gb204) (o := .cells #[.int .i64 a0_0, .int .i64 a0_1, .slice A0_2 l0_2.length c0_2] 24 (0, 0)) (dB_ BK204) hb); clear hb hbox hg; have hnb11 := NB204_205.out; have hnc11 := NB205_204.out; obtain ⟨hcz12_0, hcz12_1, hcz12_2, hfz12_0, hfz12_1, hfz12_2⟩ := cs3_ BK204.out) | (go_at_call 18; (with_reducible refine (hinterlandref02_Validate.calls k a0_0 a0_1 _ _ l0_2 t206 _ ?side1 ?side2 A6.out).mono ?_); (case side1 => exact dC_ HR0_2 HB); (case side2 => exact HC0_2.out); rintro e w13 ⟨rfl, hb⟩; replace BK204 := Aside0.mk (blk_below (g := gb204) (o := .cells #[.int .i64 a0_0, .int .i64 a0_1, .slice A0_2 l0_2.length c0_2] 24 (0, 0)) (dB_ BK204) hb); replace BK205 := Aside0.mk (blk_below (g := gb205) (o := .cells #[.int .i64 0, .int .i64 0, .slice none 0 0] 24 (0, 0)) (dB_ BK205) hb); replace HB := Aside0.mk (below_step (dL2_ HB GE204 GE205) hb)))
  (try simp only [Act.put, List.setIfInBounds_toArray, List.set_cons_zero, List.set_cons_succ])
  go_cut [50] (fun v50 wc => ∃ (kq : Nat) (x50_7 : Bool), v50 = .bool x50_7 ∧ Aside0 (hinterlandref02_Shift.j0 kq a1 a2 a3 l4 x50_7 a0_0 a0_1 l0_2 = some (r1, r2, r3, r4, r5, r6)) ∧ Aside0 (kq ≤ k) ∧ Aside0 (wc.heap[gb204]? = some (.cells #[.int .i64 a0_0, .int .i64 a0_1, (.slice A0_2 l0_2.length c0_2)] 24 (0, 0))) ∧ Aside0 (wc.heap[gb205]? = some (.cells #[.int .i64 0, .int .i64 0, (.slice none 0 0)] 24 (0, 0))) ∧ Aside0 (Below w.heap.size w wc))
  case first =>
   have H := HC8.out
   clear HC8
   by_cases c14 : a1 < 0
   ·rw [if_pos c14] at H
    have c14b0 : decide (a1 < 0) = true := decide_eq_true c14
    clear c14
    (first | rw [c14b0] | (simp only [i64_w, i32_w]; rw [c14b0]) | skip)
    have H' := Aside0.mk H
    clear H
    go_wp2
    repeat (go_quiet (fail); try go_wp2)
    go_meet
    case rel => exact ⟨_, (true), tS_, H', ⟨by first | omega | exact Nat.le_refl _⟩, ⟨dB_ BK204⟩, ⟨dB_ BK205⟩, ⟨dL2_ HB GE204 GE205⟩⟩
   ·rw [if_neg c14] at H
    have c14b0 : decide (a1 < 0) = false := decide_eq_false c14
    clear c14
    (first | rw [c14b0] | (simp only [i64_w, i32_w]; rw [c14b0]) | skip)
    by_cases c15 : a1 > a0_0
    ·rw [if_pos c15] at H
     have c15b0 : decide (a0_0 < a1) = true := decide_eq_true c15
     clear c15
     have H' := Aside0.mk H
     clear H
     have hnb16 := NB204_205.out
     have hnc16 := NB205_204.out
     obtain ⟨hcz17_0, hcz17_1, hcz17_2, hfz17_0, hfz17_1, hfz17_2⟩ := cs3_ BK204.out
     go_wp2
     repeat (go_quiet (fail); try go_wp2)
     go_meet
     case rel => exact ⟨_, (true), tS_, H', ⟨by first | omega | exact Nat.le_refl _⟩, ⟨dB_ BK204⟩, ⟨dB_ BK205⟩, ⟨dL2_ HB GE204 GE205⟩⟩
    ·rw [if_neg c15] at H
     have c15b0 : decide (a0_0 < a1) = false := decide_eq_false c15
     clear c15
     by_cases c18 : a2 < 0
     ·rw [if_pos c18] at H
      have c18b0 : decide (a2 < 0) = true := decide_eq_true c18
      clear c18
      have H' := Aside0.mk H
      clear H
      have hnb19 := NB204_205.out
      have hnc19 := NB205_204.out
      obtain ⟨hcz20_0, hcz20_1, hcz20_2, hfz20_0, hfz20_1, hfz20_2⟩ := cs3_ BK204.out
      go_wp2
      repeat (go_quiet (fail); try go_wp2)
      go_meet
      case rel => exact ⟨_, (true), tS_, H', ⟨by first | omega | exact Nat.le_refl _⟩, ⟨dB_ BK204⟩, ⟨dB_ BK205⟩, ⟨dL2_ HB GE204 GE205⟩⟩
     ·rw [if_neg c18] at H
      have c18b0 : decide (a2 < 0) = false := decide_eq_false c18
      clear c18
      have H' := Aside0.mk H
      clear H
      have hnb21 := NB204_205.out
      have hnc21 := NB205_204.out
      obtain ⟨hcz22_0, hcz22_1, hcz22_2, hfz22_0, hfz22_1, hfz22_2⟩ := cs3_ BK204.out
      go_wp2
      repeat (go_quiet (fail); try go_wp2)
      go_meet
      case rel => exact ⟨_, (decide (a2 > a0_1)), tS_, H', ⟨by first | omega | exact Nat.le_refl _⟩, ⟨dB_ BK204⟩, ⟨dB_ BK205⟩, ⟨dL2_ HB GE204 GE205⟩⟩
  case rest =>
   clear HC8
   try clear c4
   try clear c7
   try clear c7b0
   try clear c7b1
   try clear c14
   try clear c15
   try clear c18
   try clear hcz12_0
   try clear hcz12_1
   try clear hcz12_2
   try clear hfz12_0
   try clear hfz12_1
   try clear hfz12_2
   obtain ⟨kq, x50_7, rfl, HA, HJ7, BK204, BK205, HB⟩ := hcut
   cases kq with
   | zero => exact absurd HA.out (by simp [hinterlandref02_Shift.j0])
   | succ kj7 =>
    have H := HA.out
    clear HA
    simp only [hinterlandref02_Shift.j0] at H
    by_cases c23 : x50_7 = true
    ·subst c23
     have H1 : (some (0, 0, ([] : List Int), ([] : List (S36)), 0, 2)) = some (r1, r2, r3, r4, r5, r6) := by rw [if_pos rfl] at H; exact H
     clear H
     have H := H1
     clear H1
     simp only [Option.some.injEq, Prod.mk.injEq] at H
     obtain ⟨rfl, rfl, rfl, rfl, rfl, rfl⟩ := H
     have hnb24 := NB205_204.out
     have hnc24 := NB204_205.out
     obtain ⟨hcz25_0, hcz25_1, hcz25_2, hfz25_0, hfz25_1, hfz25_2⟩ := cs3_ BK205.out
     go_wp2
     repeat (go_quiet (fail); try go_wp2)
     refine bodyPost_ret (results_list (rs := [.cell 10 24, .tmp 11, .tmp 12, .tmp 13]) rfl (by simp) (.cell gb205 24 #[.int .i64 0, .int .i64 0, .slice none 0 0] (0, 0) _ rfl (by (with_reducible repeat (first | refine blk_drewN ?_ _ | refine blk_drew ?_ | refine blk_alloc ?_ _)); refine blk_put (cs := #[.int .i64 0, .int .i64 0, .slice none 0 0]) ?_ 2 _ rfl; (with_reducible repeat (first | refine blk_drewN ?_ _ | refine blk_drew ?_ | refine blk_alloc ?_ _)); refine blk_put (cs := #[.int .i64 0, .int .i64 0, .slice none 0 0]) ?_ 1 _ rfl; (with_reducible repeat (first | refine blk_drewN ?_ _ | refine blk_drew ?_ | refine blk_alloc ?_ _)); refine blk_put (cs := #[.int .i64 0, .int .i64 0, .slice none 0 0]) ?_ 0 _ rfl; (with_reducible repeat (first | refine blk_drewN ?_ _ | refine blk_drew ?_ | refine blk_alloc ?_ _)); exact BK205.out) Try.underlying24 rfl (by kernel_rfl) (.tmp (.tmp (.tmp .nil))))) rfl ?_
     exact ⟨_, _, tE_, by first | exact Kd.R_nil _ _ _ _ _ | exact Kd.N_nil _ _ _ _ _ | exact Kd.V_nil _ _ _ _ _ | exact Kd.Q_nil _ _ _ _ _ | exact Kd.S_nil _ _ _ _ _, by first | exact Kd.R_nil _ _ _ _ _ | exact Kd.N_nil _ _ _ _ _ | exact Kd.V_nil _ _ _ _ _ | exact Kd.Q_nil _ _ _ _ _ | exact Kd.S_nil _ _ _ _ _, dL2_ HB GE204 GE205⟩
    ·replace c23 := Bool.eq_false_iff.mpr c23
     subst c23
     have H1 : (if 0 ≤ (wrap64 ((wrap64 (a2 * (wrap64 (a0_0 + 1)))) + a1)) then (if (wrap64 ((wrap64 (a2 * (wrap64 (a0_0 + 1)))) + a1)) < (l0_2.length : Int) then (if a3 = true then (hinterlandref02_Shift.j1 kj7 a1 a2 a3 l4 (wrap64 ((rd l0_2 (wrap64 ((wrap64 (a2 * (wrap64 (a0_0 + 1)))) + a1))) + 1)) a0_0 a0_1 l0_2) else (hinterlandref02_Shift.j1 kj7 a1 a2 a3 l4 (wrap64 ((rd l0_2 (wrap64 ((wrap64 (a2 * (wrap64 (a0_0 + 1)))) + a1))) - 1)) a0_0 a0_1 l0_2)) else (none)) else (none)) = some (r1, r2, r3, r4, r5, r6) := by rw [if_neg (show ¬ (false = true) by decide)] at H; exact H
     clear H
     have H := H1
     clear H1
     obtain ⟨ji26, hji26⟩ : ∃ j_ : Int, (wrap64 ((wrap64 (a2 * (wrap64 (a0_0 + 1)))) + a1)) = j_ := ⟨_, rfl⟩
     replace H : (if 0 ≤ (ji26) then (if (ji26) < (l0_2.length : Int) then (if a3 = true then (hinterlandref02_Shift.j1 kj7 a1 a2 a3 l4 (wrap64 ((rd l0_2 (ji26)) + 1)) a0_0 a0_1 l0_2) else (hinterlandref02_Shift.j1 kj7 a1 a2 a3 l4 (wrap64 ((rd l0_2 (ji26)) - 1)) a0_0 a0_1 l0_2)) else (none)) else (none)) = some (r1, r2, r3, r4, r5, r6) := by first | (rw [hji26] at H; exact H) | (simp only [hji26] at H ⊢; exact H)
     have hji26w : (IntKind.i64.wrap ((wrap64 (a2 * (wrap64 (a0_0 + 1)))) + a1)) = ji26 := (i64_w _).trans hji26
     by_cases c27 : 0 ≤ (ji26)
     ·rw [if_pos c27] at H
      have c27b0 : decide (0 ≤ (ji26)) = true := decide_eq_true c27
      clear c27
      by_cases c28 : (ji26) < (l0_2.length : Int)
      ·rw [if_pos c28] at H
       have c28b0 : decide ((ji26) < (l0_2.length : Int)) = true := decide_eq_true c28
       clear c28
       have HC29 := Aside0.mk H
       clear H
       have hnb30 := NB204_205.out
       have hnc30 := NB205_204.out
       obtain ⟨hcz31_0, hcz31_1, hcz31_2, hfz31_0, hfz31_1, hfz31_2⟩ := cs3_ BK204.out
       have p207 : 0 ≤ ((ji26) : Int) := of_decide_eq_true tW_
       have q207 : (ji26) < (l0_2.length : Int) := of_decide_eq_true tW_
       obtain ⟨ad207, e207, hx207_0⟩ := Kd.at_int HR0_2.out (ji26) p207 q207
       cases e207
       replace hx207_0 := bc_ HB hx207_0
       replace p207 := eq_true p207
       replace q207 := eq_true q207
       go_upto_if 63 with (fail)
       repeat (go_quiet (fail); go_upto_if 63 with (fail))
       go_cut [15] (fun v15 wc => ∃ (kq : Nat) (x15_28 : Int), v15 = .int .i64 x15_28 ∧ Aside0 (hinterlandref02_Shift.j1 kq a1 a2 a3 l4 x15_28 a0_0 a0_1 l0_2 = some (r1, r2, r3, r4, r5, r6)) ∧ Aside0 (kq ≤ kj7) ∧ Aside0 (wc.heap[gb204]? = some (.cells #[.int .i64 a0_0, .int .i64 a0_1, (.slice (some ad207) l0_2.length c0_2)] 24 (0, 0))) ∧ Aside0 (wc.heap[gb205]? = some (.cells #[.int .i64 0, .int .i64 0, (.slice none 0 0)] 24 (0, 0))) ∧ Aside0 (Below w.heap.size w wc))
       case first =>
        have H := HC29.out
        clear HC29
        by_cases c32 : a3 = true
        ·subst c32
         have H1 : (hinterlandref02_Shift.j1 kj7 a1 a2 true l4 (wrap64 ((rd l0_2 (ji26)) + 1)) a0_0 a0_1 l0_2) = some (r1, r2, r3, r4, r5, r6) := by rw [if_pos rfl] at H; exact H
         clear H
         have H := H1
         clear H1
         have H' := Aside0.mk H
         clear H
         go_wp2
         repeat (go_quiet (fail); try go_wp2)
         go_meet
         case rel => exact ⟨_, (wrap64 ((rd l0_2 (ji26)) + 1)), (by first | rfl | (simp; done) | (simp only [← hji26]; rw [shl_one_small _ (by assumption) (by omega)]; done) | (simp only [← hji26] <;> (first | rfl | simp)) | (simp [*]; done) | (refine congrArg (Value.int .i64) ?_; unfold wrap64; omega) | (simp only [shl_one_small _ (by assumption) (by omega)]; done) | (simp [*]; rw [shl_one_small _ (by assumption) (by omega)]; done)), H', ⟨by have := HJ7.out; first | omega | exact Nat.le_refl _⟩, ⟨dB_ BK204⟩, ⟨dB_ BK205⟩, ⟨dL2_ HB GE204 GE205⟩⟩
        ·replace c32 := Bool.eq_false_iff.mpr c32
         subst c32
         have H1 : (hinterlandref02_Shift.j1 kj7 a1 a2 false l4 (wrap64 ((rd l0_2 (ji26)) - 1)) a0_0 a0_1 l0_2) = some (r1, r2, r3, r4, r5, r6) := by rw [if_neg (show ¬ (false = true) by decide)] at H; exact H
         clear H
         have H := H1
         clear H1
         have H' := Aside0.mk H
         clear H
         go_wp2
         repeat (go_quiet (fail); try go_wp2)
         go_meet
         case rel => exact ⟨_, (wrap64 ((rd l0_2 (ji26)) - 1)), (by first | rfl | (simp; done) | (simp only [← hji26]; rw [shl_one_small _ (by assumption) (by omega)]; done) | (simp only [← hji26] <;> (first | rfl | simp)) | (simp [*]; done) | (refine congrArg (Value.int .i64) ?_; unfold wrap64; omega) | (simp only [shl_one_small _ (by assumption) (by omega)]; done) | (simp [*]; rw [shl_one_small _ (by assumption) (by omega)]; done)), H', ⟨by have := HJ7.out; first | omega | exact Nat.le_refl _⟩, ⟨dB_ BK204⟩, ⟨dB_ BK205⟩, ⟨dL2_ HB GE204 GE205⟩⟩
       case rest =>
        clear HC29
        try clear c4
        try clear c7
        try clear c7b0
        try clear c7b1
        try clear c14
        try clear c15
        try clear c18
        try clear c23
        try clear c27
        try clear c27b0
        try clear c28
        try clear c28b0
        try clear hcz12_0
        try clear hcz12_1
        try clear hcz12_2
        try clear hcz31_0
        try clear hcz31_1
        try clear hcz31_2
        try clear hfz12_0
        try clear hfz12_1
        try clear hfz12_2
        try clear hfz31_0
        try clear hfz31_1
        try clear hfz31_2
        try clear hx207_0
        try clear p207
        try clear q207
        obtain ⟨kq, x15_28, rfl, HA, HJ28, BK204, BK205, HB⟩ := hcut
        cases kq with
        | zero => exact absurd HA.out (by simp [hinterlandref02_Shift.j1])
        | succ kj28 =>
         have H := HA.out
         clear HA
         simp only [hinterlandref02_Shift.j1] at H
         have HC33 := Aside0.mk H
         clear H
         go_upto_region 10 with (fail)
         repeat (go_quiet (fail); go_upto_region 10 with (fail))
         go_cut [73] (fun v73 wc => ∃ (kq : Nat) (x73_32 : Bool), v73 = .bool x73_32 ∧ Aside0 (hinterlandref02_Shift.j2 kq a1 a2 a3 l4 x15_28 x73_32 a0_0 a0_1 l0_2 = some (r1, r2, r3, r4, r5, r6)) ∧ Aside0 (kq ≤ kj28) ∧ Aside0 (wc.heap[gb204]? = some (.cells #[.int .i64 a0_0, .int .i64 a0_1, (.slice (some ad207) l0_2.length c0_2)] 24 (0, 0))) ∧ Aside0 (wc.heap[gb205]? = some (.cells #[.int .i64 0, .int .i64 0, (.slice none 0 0)] 24 (0, 0))) ∧ Aside0 (Below w.heap.size w wc))
         case first =>
          have H := HC33.out
          clear HC33
          by_cases c34 : x15_28 < 0
          ·rw [if_pos c34] at H
           have c34b0 : decide (x15_28 < 0) = true := decide_eq_true c34
           clear c34
           (first | rw [c34b0] | (simp only [i64_w, i32_w]; rw [c34b0]) | skip)
           have H' := Aside0.mk H
           clear H
           go_wp2
           repeat (go_quiet (fail); try go_wp2)
           go_meet
           case rel => exact ⟨_, (true), tS_, H', ⟨by have := HJ7.out; have := HJ28.out; first | omega | exact Nat.le_refl _⟩, ⟨dB_ BK204⟩, ⟨dB_ BK205⟩, ⟨dL2_ HB GE204 GE205⟩⟩
          ·rw [if_neg c34] at H
           have c34b0 : decide (x15_28 < 0) = false := decide_eq_false c34
           clear c34
           (first | rw [c34b0] | (simp only [i64_w, i32_w]; rw [c34b0]) | skip)
           have H' := Aside0.mk H
           clear H
           go_wp2
           repeat (go_quiet (fail); try go_wp2)
           go_meet
           case rel => exact ⟨_, (decide (x15_28 > 15)), tS_, H', ⟨by have := HJ7.out; have := HJ28.out; first | omega | exact Nat.le_refl _⟩, ⟨dB_ BK204⟩, ⟨dB_ BK205⟩, ⟨dL2_ HB GE204 GE205⟩⟩
         case rest =>
          clear HC33
          try clear c4
          try clear c7
          try clear c7b0
          try clear c7b1
          try clear c14
          try clear c15
          try clear c18
          try clear c23
          try clear c27
          try clear c27b0
          try clear c28
          try clear c28b0
          try clear c34
          try clear hcz12_0
          try clear hcz12_1
          try clear hcz12_2
          try clear hcz31_0
          try clear hcz31_1
          try clear hcz31_2
          try clear hfz12_0
          try clear hfz12_1
          try clear hfz12_2
          try clear hfz31_0
          try clear hfz31_1
          try clear hfz31_2
          try clear hx207_0
          try clear p207
          try clear q207
          obtain ⟨kq, x73_32, rfl, HA, HJ32, BK204, BK205, HB⟩ := hcut
          cases kq with
          | zero => exact absurd HA.out (by simp [hinterlandref02_Shift.j2])
          | succ kj32 =>
           have H := HA.out
           clear HA
           simp only [hinterlandref02_Shift.j2] at H
           by_cases c35 : x73_32 = true
           ·subst c35
            have H1 : (some (0, 0, ([] : List Int), ([] : List (S36)), 0, 6)) = some (r1, r2, r3, r4, r5, r6) := by rw [if_pos rfl] at H; exact H
            clear H
            have H := H1
            clear H1
            simp only [Option.some.injEq, Prod.mk.injEq] at H
            obtain ⟨rfl, rfl, rfl, rfl, rfl, rfl⟩ := H
            have hnb36 := NB205_204.out
            have hnc36 := NB204_205.out
            obtain ⟨hcz37_0, hcz37_1, hcz37_2, hfz37_0, hfz37_1, hfz37_2⟩ := cs3_ BK205.out
            go_wp2
            repeat (go_quiet (fail); try go_wp2)
            refine bodyPost_ret (results_list (rs := [.cell 10 24, .tmp 11, .tmp 12, .tmp 13]) rfl (by simp) (.cell gb205 24 #[.int .i64 0, .int .i64 0, .slice none 0 0] (0, 0) _ rfl (by (with_reducible repeat (first | refine blk_drewN ?_ _ | refine blk_drew ?_ | refine blk_alloc ?_ _)); refine blk_put (cs := #[.int .i64 0, .int .i64 0, .slice none 0 0]) ?_ 2 _ rfl; (with_reducible repeat (first | refine blk_drewN ?_ _ | refine blk_drew ?_ | refine blk_alloc ?_ _)); refine blk_put (cs := #[.int .i64 0, .int .i64 0, .slice none 0 0]) ?_ 1 _ rfl; (with_reducible repeat (first | refine blk_drewN ?_ _ | refine blk_drew ?_ | refine blk_alloc ?_ _)); refine blk_put (cs := #[.int .i64 0, .int .i64 0, .slice none 0 0]) ?_ 0 _ rfl; (with_reducible repeat (first | refine blk_drewN ?_ _ | refine blk_drew ?_ | refine blk_alloc ?_ _)); exact BK205.out) Try.underlying24 rfl (by kernel_rfl) (.tmp (.tmp (.tmp .nil))))) rfl ?_
            exact ⟨_, _, by first | rfl | (simp [errW_none, errW_some] <;> rfl) | (simp only [← hji26]; first | rfl | (simp [errW_none, errW_some] <;> rfl)) | (simp [*, errW_none, errW_some] <;> rfl), by first | exact Kd.R_nil _ _ _ _ _ | exact Kd.N_nil _ _ _ _ _ | exact Kd.V_nil _ _ _ _ _ | exact Kd.Q_nil _ _ _ _ _ | exact Kd.S_nil _ _ _ _ _, by first | exact Kd.R_nil _ _ _ _ _ | exact Kd.N_nil _ _ _ _ _ | exact Kd.V_nil _ _ _ _ _ | exact Kd.Q_nil _ _ _ _ _ | exact Kd.S_nil _ _ _ _ _, dL2_ HB GE204 GE205⟩
           ·replace c35 := Bool.eq_false_iff.mpr c35
            subst c35
            have H1 : (hinterlandref02_Shift.l0 kj32 a1 a2 a3 l4 x15_28 ([] : List (S36)) 0 l0_2 (l0_2.length : Int) 0 a0_0 a0_1 l0_2 a0_0 a0_1 ([] : List Int)) = some (r1, r2, r3, r4, r5, r6) := by rw [if_neg (show ¬ (false = true) by decide)] at H; exact H
            clear H
            have H := H1
            clear H1
            have H' := Aside0.mk H
            clear H
            have hnb38 := NB204_205.out
            have hnc38 := NB205_204.out
            obtain ⟨hcz39_0, hcz39_1, hcz39_2, hfz39_0, hfz39_1, hfz39_2⟩ := cs3_ BK204.out
            go_wp2_with (first | ((with_reducible refine gate_dst (N := 16) rfl ?_); refine box_event ?hg (N := 16) ?hd (cs := #[.int .i64 0, .int .i64 0, .slice none 0 0]) (t := 24) ?hr ?_; (case hd => rfl); (case hg => rfl); (case hr => first | (go_simp; done) | (go_simp; rfl)); intro gb208 hg w40 hbox hb; have BK208 := Aside0.mk (hbox); have GW208 := Aside0.mk ((dS_ hg (dL2_ HB GE204 GE205) : w.heap.size ≤ gb208)); have GE208 := Aside0.mk ((dS_ hg (dL2_ HB GE204 GE205) : w.heap.size ≤ gb208)); replace HB := Aside0.mk (below_step (dL2_ HB GE204 GE205) hb); have NB204_208 := Aside0.mk ((by rw [hg]; exact Nat.ne_of_lt (blk_lt (dB_ BK204)) : gb204 ≠ gb208)); have NB208_204 := Aside0.mk ((by rw [hg]; exact Nat.ne_of_gt (blk_lt (dB_ BK204)) : gb208 ≠ gb204)); replace BK204 := Aside0.mk (blk_below (g := gb204) (o := .cells #[.int .i64 a0_0, .int .i64 a0_1, .slice (some ad207) l0_2.length c0_2] 24 (0, 0)) (dB_ BK204) hb); have NB205_208 := Aside0.mk ((by rw [hg]; exact Nat.ne_of_lt (blk_lt (dB_ BK205)) : gb205 ≠ gb208)); have NB208_205 := Aside0.mk ((by rw [hg]; exact Nat.ne_of_gt (blk_lt (dB_ BK205)) : gb208 ≠ gb205)); replace BK205 := Aside0.mk (blk_below (g := gb205) (o := .cells #[.int .i64 0, .int .i64 0, .slice none 0 0] 24 (0, 0)) (dB_ BK205) hb); clear hb hbox hg; have hnb41 := NB208_204.out; have hnc41 := NB204_208.out; have hnb42 := NB208_205.out; have hnc42 := NB205_208.out; obtain ⟨hcz43_0, hcz43_1, hcz43_2, hfz43_0, hfz43_1, hfz43_2⟩ := cs3_ BK208.out; obtain ⟨hcz44_0, hcz44_1, hcz44_2, hfz44_0, hfz44_1, hfz44_2⟩ := cs3_ BK204.out))
            go_loopg [17, 18, 83] kj32 (fun kq v17 v18 v83 w' => ∃ (x17_4 : List (S36)) (x18_4 : Int) (x83_4 : Int) (x209002_4 : List Int) (u209002 : Value), v18 = .int .i64 x18_4 ∧ v83 = .int .i64 x83_4 ∧ Aside0 (hinterlandref02_Shift.l0 kq a1 a2 a3 l4 x15_28 x17_4 x18_4 l0_2 (l0_2.length : Int) x83_4 a0_0 a0_1 l0_2 a0_0 a0_1 x209002_4 = some (r1, r2, r3, r4, r5, r6)) ∧ Aside0 (kq ≤ kj32) ∧ Aside0 (Kd.R k36 36 w' w.heap.size (fun _ => True) v17 x17_4) ∧ Aside0 (Kd.R (Kd.int .i64) 3 w' w.heap.size (fun _ => True) u209002 x209002_4) ∧ Aside0 (w'.heap[gb204]? = some (.cells #[.int .i64 a0_0, .int .i64 a0_1, (.slice (some ad207) l0_2.length c0_2)] 24 (0, 0))) ∧ Aside0 (w'.heap[gb205]? = some (.cells #[.int .i64 0, .int .i64 0, (.slice none 0 0)] 24 (0, 0))) ∧ Aside0 (w'.heap[gb208]? = some (.cells #[.int .i64 a0_0, .int .i64 a0_1, u209002] 24 (0, 0))) ∧ Aside0 (Below w.heap.size w w'))
            case atStart => exact ⟨(([] : List (S36))), (0), (0), (([] : List Int)), (.slice none 0 0), tS_, tS_, H', ⟨Nat.le_refl _⟩, ⟨by first | exact Kd.R_nil _ _ _ _ _ | exact Kd.N_nil _ _ _ _ _ | exact Kd.V_nil _ _ _ _ _ | exact Kd.Q_nil _ _ _ _ _ | exact Kd.S_nil _ _ _ _ _⟩, ⟨by first | exact Kd.R_nil _ _ _ _ _ | exact Kd.N_nil _ _ _ _ _ | exact Kd.V_nil _ _ _ _ _ | exact Kd.Q_nil _ _ _ _ _ | exact Kd.S_nil _ _ _ _ _⟩, ⟨by (with_reducible repeat (first | refine blk_drewN ?_ _ | refine blk_drew ?_ | refine blk_alloc ?_ _)); refine blk_far ?_ NB204_208.out _; (with_reducible repeat (first | refine blk_drewN ?_ _ | refine blk_drew ?_ | refine blk_alloc ?_ _)); refine blk_far ?_ NB204_208.out _; (with_reducible repeat (first | refine blk_drewN ?_ _ | refine blk_drew ?_ | refine blk_alloc ?_ _)); refine blk_far ?_ NB204_208.out _; (with_reducible repeat (first | refine blk_drewN ?_ _ | refine blk_drew ?_ | refine blk_alloc ?_ _)); exact BK204.out⟩, ⟨by (with_reducible repeat (first | refine blk_drewN ?_ _ | refine blk_drew ?_ | refine blk_alloc ?_ _)); refine blk_far ?_ NB205_208.out _; (with_reducible repeat (first | refine blk_drewN ?_ _ | refine blk_drew ?_ | refine blk_alloc ?_ _)); refine blk_far ?_ NB205_208.out _; (with_reducible repeat (first | refine blk_drewN ?_ _ | refine blk_drew ?_ | refine blk_alloc ?_ _)); refine blk_far ?_ NB205_208.out _; (with_reducible repeat (first | refine blk_drewN ?_ _ | refine blk_drew ?_ | refine blk_alloc ?_ _)); exact BK205.out⟩, ⟨by (with_reducible repeat (first | refine blk_drewN ?_ _ | refine blk_drew ?_ | refine blk_alloc ?_ _)); refine blk_put (cs := #[.int .i64 a0_0, .int .i64 a0_1, .slice none 0 0]) ?_ 2 _ rfl; (with_reducible repeat (first | refine blk_drewN ?_ _ | refine blk_drew ?_ | refine blk_alloc ?_ _)); refine blk_put (cs := #[.int .i64 a0_0, .int .i64 0, .slice none 0 0]) ?_ 1 _ rfl; (with_reducible repeat (first | refine blk_drewN ?_ _ | refine blk_drew ?_ | refine blk_alloc ?_ _)); refine blk_put (cs := #[.int .i64 0, .int .i64 0, .slice none 0 0]) ?_ 0 _ rfl; (with_reducible repeat (first | refine blk_drewN ?_ _ | refine blk_drew ?_ | refine blk_alloc ?_ _)); exact BK208.out⟩, ⟨dL3_ HB GE204 GE205 GE208⟩⟩
            case round =>
             clear H'
             try clear c4
             try clear c7
             try clear c7b0
             try clear c7b1
             try clear c14
             try clear c15
             try clear c18
             try clear c23
             try clear c27
             try clear c27b0
             try clear c28
             try clear c28b0
             try clear c34
             try clear c35
             try clear hcz12_0
             try clear hcz12_1
             try clear hcz12_2
             try clear hcz31_0
             try clear hcz31_1
             try clear hcz31_2
             try clear hcz39_0
             try clear hcz39_1
             try clear hcz39_2
             try clear hcz43_0
             try clear hcz43_1
             try clear hcz43_2
             try clear hcz44_0
             try clear hcz44_1
             try clear hcz44_2
             try clear hfz12_0
             try clear hfz12_1
             try clear hfz12_2
             try clear hfz31_0
             try clear hfz31_1
             try clear hfz31_2
             try clear hfz39_0
             try clear hfz39_1
             try clear hfz39_2
             try clear hfz43_0
             try clear hfz43_1
             try clear hfz43_2
             try clear hfz44_0
             try clear hfz44_1
             try clear hfz44_2
             try clear hx207_0
             try clear p207
             try clear q207
             obtain ⟨x17_4, x18_4, x83_4, x209002_4, u209002, rfl, rfl, HA, HK4, HO_17, HO_209002, BK204, BK205, BK208, HB⟩ := hrel
             cases gk with
             | zero => exact absurd HA.out (by simp [hinterlandref02_Shift.l0])
             | succ k4 =>
              have H := HA.out
              clear HA
              simp only [hinterlandref02_Shift.l0] at H
              by_cases c45 : x83_4 < (l0_2.length : Int)
              ·rw [if_pos c45] at H
               have c45b0 : decide (x83_4 < (l0_2.length : Int)) = true := decide_eq_true c45
               clear c45
               by_cases c46 : 0 ≤ x83_4
               ·rw [if_pos c46] at H
                have c46b0 : decide (0 ≤ x83_4) = true := decide_eq_true c46
                clear c46
                by_cases c47 : x83_4 < (l0_2.length : Int)
                ·rw [if_pos c47] at H
                 have c47b0 : decide (x83_4 < (l0_2.length : Int)) = true := decide_eq_true c47
                 clear c47
                 by_cases c48 : (wrap64 (a0_0 + 1)) = 0
                 ·rw [if_pos c48] at H
                  exact absurd H (by simp)
                 ·rw [if_neg c48] at H
                  have c48b0 : ((wrap64 (a0_0 + 1)) == 0) = false := beq_eq_false_iff_ne.mpr c48
                  have c48b1 : ((wrap64 (a0_0 + 1)) != 0) = true := bne_iff_ne.mpr c48
                  replace H := Option.bind_eq_some_iff.mp H
                  obtain ⟨t210, A490, H⟩ := H
                  replace H : ((hinterlandref02_Apart.f a2 (wrap64 (Int.tdiv x83_4 (wrap64 (a0_0 + 1))))).bind fun t211 => (if a3 = true then (hinterlandref02_Shift.j4 k4 a1 a2 a3 l4 x15_28 x17_4 x18_4 (rd l0_2 x83_4) (Int.tmod x83_4 (wrap64 (a0_0 + 1))) (wrap64 (Int.tdiv x83_4 (wrap64 (a0_0 + 1)))) (mx (rd l0_2 x83_4) (wrap64 (x15_28 - (wrap64 (t210 + t211))))) l0_2 (l0_2.length : Int) x83_4 a0_0 a0_1 l0_2 a0_0 a0_1 x209002_4) else (hinterlandref02_Shift.j4 k4 a1 a2 a3 l4 x15_28 x17_4 x18_4 (rd l0_2 x83_4) (Int.tmod x83_4 (wrap64 (a0_0 + 1))) (wrap64 (Int.tdiv x83_4 (wrap64 (a0_0 + 1)))) (mn (rd l0_2 x83_4) (wrap64 (x15_28 + (wrap64 (t210 + t211))))) l0_2 (l0_2.length : Int) x83_4 a0_0 a0_1 l0_2 a0_0 a0_1 x209002_4))) = some (r1, r2, r3, r4, r5, r6) := H
                  have A49 := Aside0.mk A490
                  clear A490
                  replace H := Option.bind_eq_some_iff.mp H
                  obtain ⟨t211, A500, H⟩ := H
                  replace H : (if a3 = true then (hinterlandref02_Shift.j4 k4 a1 a2 a3 l4 x15_28 x17_4 x18_4 (rd l0_2 x83_4) (Int.tmod x83_4 (wrap64 (a0_0 + 1))) (wrap64 (Int.tdiv x83_4 (wrap64 (a0_0 + 1)))) (mx (rd l0_2 x83_4) (wrap64 (x15_28 - (wrap64 (t210 + t211))))) l0_2 (l0_2.length : Int) x83_4 a0_0 a0_1 l0_2 a0_0 a0_1 x209002_4) else (hinterlandref02_Shift.j4 k4 a1 a2 a3 l4 x15_28 x17_4 x18_4 (rd l0_2 x83_4) (Int.tmod x83_4 (wrap64 (a0_0 + 1))) (wrap64 (Int.tdiv x83_4 (wrap64 (a0_0 + 1)))) (mn (rd l0_2 x83_4) (wrap64 (x15_28 + (wrap64 (t210 + t211))))) l0_2 (l0_2.length : Int) x83_4 a0_0 a0_1 l0_2 a0_0 a0_1 x209002_4)) = some (r1, r2, r3, r4, r5, r6) := H
                  have A50 := Aside0.mk A500
                  clear A500
                  have HC51 := Aside0.mk H
                  clear H
                  have p209 : 0 ≤ (x83_4 : Int) := of_decide_eq_true tW_
                  have q209 : x83_4 < (l0_2.length : Int) := of_decide_eq_true tW_
                  obtain ⟨ad209, e209, hx209_0⟩ := Kd.at_int HR0_2.out x83_4 p209 q209
                  obtain rfl : ad207 = ad209 := (by injection e209)
                  replace hx209_0 := bc_ HB hx209_0
                  replace p209 := eq_true p209
                  replace q209 := eq_true q209
                  have hnb52 := NB204_205.out
                  have hnc52 := NB205_204.out
                  have hnb53 := NB204_208.out
                  have hnc53 := NB208_204.out
                  obtain ⟨hcz54_0, hcz54_1, hcz54_2, hfz54_0, hfz54_1, hfz54_2⟩ := cs3_ BK204.out
                  go_upto_if 106 with (first | (go_at_call 44; (with_reducible refine (hinterlandref02_Apart.calls a1 (Int.tmod x83_4 (wrap64 (a0_0 + 1))) t210 _ A49.out).mono ?_); rintro e w' ⟨rfl, ⟨nd, rfl⟩⟩; (try first | exact ⟨rfl, _, World.drewN_drewN _ _ _⟩ | exact ⟨rfl, _, Eq.trans (World.drewN_drewN _ _ _) (congrArg (World.drewN _) (Nat.add_assoc _ _ _))⟩)) | (go_at_call 44; (with_reducible refine (hinterlandref02_Apart.calls a2 (wrap64 (Int.tdiv x83_4 (wrap64 (a0_0 + 1)))) t211 _ A50.out).mono ?_); rintro e w' ⟨rfl, ⟨nd, rfl⟩⟩; (try first | exact ⟨rfl, _, World.drewN_drewN _ _ _⟩ | exact ⟨rfl, _, Eq.trans (World.drewN_drewN _ _ _) (congrArg (World.drewN _) (Nat.add_assoc _ _ _))⟩)))
                  repeat (go_quiet (first | (go_at_call 44; (with_reducible refine (hinterlandref02_Apart.calls a1 (Int.tmod x83_4 (wrap64 (a0_0 + 1))) t210 _ A49.out).mono ?_); rintro e w' ⟨rfl, ⟨nd, rfl⟩⟩; (try first | exact ⟨rfl, _, World.drewN_drewN _ _ _⟩ | exact ⟨rfl, _, Eq.trans (World.drewN_drewN _ _ _) (congrArg (World.drewN _) (Nat.add_assoc _ _ _))⟩)) | (go_at_call 44; (with_reducible refine (hinterlandref02_Apart.calls a2 (wrap64 (Int.tdiv x83_4 (wrap64 (a0_0 + 1)))) t211 _ A50.out).mono ?_); rintro e w' ⟨rfl, ⟨nd, rfl⟩⟩; (try first | exact ⟨rfl, _, World.drewN_drewN _ _ _⟩ | exact ⟨rfl, _, Eq.trans (World.drewN_drewN _ _ _) (congrArg (World.drewN _) (Nat.add_assoc _ _ _))⟩))); go_upto_if 106 with (first | (go_at_call 44; (with_reducible refine (hinterlandref02_Apart.calls a1 (Int.tmod x83_4 (wrap64 (a0_0 + 1))) t210 _ A49.out).mono ?_); rintro e w' ⟨rfl, ⟨nd, rfl⟩⟩; (try first | exact ⟨rfl, _, World.drewN_drewN _ _ _⟩ | exact ⟨rfl, _, Eq.trans (World.drewN_drewN _ _ _) (congrArg (World.drewN _) (Nat.add_assoc _ _ _))⟩)) | (go_at_call 44; (with_reducible refine (hinterlandref02_Apart.calls a2 (wrap64 (Int.tdiv x83_4 (wrap64 (a0_0 + 1)))) t211 _ A50.out).mono ?_); rintro e w' ⟨rfl, ⟨nd, rfl⟩⟩; (try first | exact ⟨rfl, _, World.drewN_drewN _ _ _⟩ | exact ⟨rfl, _, Eq.trans (World.drewN_drewN _ _ _) (congrArg (World.drewN _) (Nat.add_assoc _ _ _))⟩))))
                  (try simp only [Act.put, List.setIfInBounds_toArray, List.set_cons_zero, List.set_cons_succ])
                  go_cut [24] (fun v24 wc => ∃ (kq : Nat) (x24_50 : Int), v24 = .int .i64 x24_50 ∧ Aside0 (hinterlandref02_Shift.j4 kq a1 a2 a3 l4 x15_28 x17_4 x18_4 (rd l0_2 x83_4) (Int.tmod x83_4 (wrap64 (a0_0 + 1))) (wrap64 (Int.tdiv x83_4 (wrap64 (a0_0 + 1)))) x24_50 l0_2 (l0_2.length : Int) x83_4 a0_0 a0_1 l0_2 a0_0 a0_1 x209002_4 = some (r1, r2, r3, r4, r5, r6)) ∧ Aside0 (kq ≤ k4) ∧ Aside0 (Kd.R k36 36 wc w.heap.size (fun _ => True) u17 x17_4) ∧ Aside0 (Kd.R (Kd.int .i64) 3 wc w.heap.size (fun _ => True) u209002 x209002_4) ∧ Aside0 (wc.heap[gb204]? = some (.cells #[.int .i64 a0_0, .int .i64 a0_1, (.slice (some ad207) l0_2.length c0_2)] 24 (0, 0))) ∧ Aside0 (wc.heap[gb205]? = some (.cells #[.int .i64 0, .int .i64 0, (.slice none 0 0)] 24 (0, 0))) ∧ Aside0 (wc.heap[gb208]? = some (.cells #[.int .i64 a0_0, .int .i64 a0_1, u209002] 24 (0, 0))) ∧ Aside0 (Below w.heap.size w wc))
                  case first =>
                   have H := HC51.out
                   clear HC51
                   by_cases c55 : a3 = true
                   ·subst c55
                    have H1 : (hinterlandref02_Shift.j4 k4 a1 a2 true l4 x15_28 x17_4 x18_4 (rd l0_2 x83_4) (Int.tmod x83_4 (wrap64 (a0_0 + 1))) (wrap64 (Int.tdiv x83_4 (wrap64 (a0_0 + 1)))) (mx (rd l0_2 x83_4) (wrap64 (x15_28 - (wrap64 (t210 + t211))))) l0_2 (l0_2.length : Int) x83_4 a0_0 a0_1 l0_2 a0_0 a0_1 x209002_4) = some (r1, r2, r3, r4, r5, r6) := by rw [if_pos rfl] at H; exact H
                    clear H
                    have H := H1
                    clear H1
                    obtain ⟨ji56, hji56⟩ : ∃ j_ : Int, (mx (rd l0_2 x83_4) (wrap64 (x15_28 - (wrap64 (t210 + t211))))) = j_ := ⟨_, rfl⟩
                    replace H : (hinterlandref02_Shift.j4 k4 a1 a2 true l4 x15_28 x17_4 x18_4 (rd l0_2 x83_4) (Int.tmod x83_4 (wrap64 (a0_0 + 1))) (wrap64 (Int.tdiv x83_4 (wrap64 (a0_0 + 1)))) ji56 l0_2 (l0_2.length : Int) x83_4 a0_0 a0_1 l0_2 a0_0 a0_1 x209002_4) = some (r1, r2, r3, r4, r5, r6) := by first | (rw [hji56] at H; exact H) | (simp only [hji56] at H ⊢; exact H)
                    have hji56_ : (if (rd l0_2 x83_4) < (wrap64 (x15_28 - (wrap64 (t210 + t211)))) then (wrap64 (x15_28 - (wrap64 (t210 + t211)))) else (rd l0_2 x83_4)) = ji56 := hji56
                    have H' := Aside0.mk H
                    clear H
                    go_wp2
                    repeat (go_quiet (fail); try go_wp2)
                    go_meet
                    case rel => exact ⟨_, (ji56), (by first | rfl | (simp; done) | (simp only [← hji56]; rw [shl_one_small _ (by assumption) (by omega)]; done) | (simp only [← hji56] <;> (first | rfl | simp)) | (simp [*]; done) | (refine congrArg (Value.int .i64) ?_; unfold wrap64; omega) | (simp only [shl_one_small _ (by assumption) (by omega)]; done) | (simp [*]; rw [shl_one_small _ (by assumption) (by omega)]; done)), H', ⟨by have := HJ7.out; have := HJ28.out; have := HJ32.out; have := HK4.out; first | omega | exact Nat.le_refl _⟩, ⟨dR_ HO_17⟩, ⟨dR_ HO_209002⟩, ⟨dB_ BK204⟩, ⟨dB_ BK205⟩, ⟨dB_ BK208⟩, ⟨dL3_ HB GE204 GE205 GE208⟩⟩
                   ·replace c55 := Bool.eq_false_iff.mpr c55
                    subst c55
                    have H1 : (hinterlandref02_Shift.j4 k4 a1 a2 false l4 x15_28 x17_4 x18_4 (rd l0_2 x83_4) (Int.tmod x83_4 (wrap64 (a0_0 + 1))) (wrap64 (Int.tdiv x83_4 (wrap64 (a0_0 + 1)))) (mn (rd l0_2 x83_4) (wrap64 (x15_28 + (wrap64 (t210 + t211))))) l0_2 (l0_2.length : Int) x83_4 a0_0 a0_1 l0_2 a0_0 a0_1 x209002_4) = some (r1, r2, r3, r4, r5, r6) := by rw [if_neg (show ¬ (false = true) by decide)] at H; exact H
                    clear H
                    have H := H1
                    clear H1
                    obtain ⟨ji57, hji57⟩ : ∃ j_ : Int, (mn (rd l0_2 x83_4) (wrap64 (x15_28 + (wrap64 (t210 + t211))))) = j_ := ⟨_, rfl⟩
                    replace H : (hinterlandref02_Shift.j4 k4 a1 a2 false l4 x15_28 x17_4 x18_4 (rd l0_2 x83_4) (Int.tmod x83_4 (wrap64 (a0_0 + 1))) (wrap64 (Int.tdiv x83_4 (wrap64 (a0_0 + 1)))) ji57 l0_2 (l0_2.length : Int) x83_4 a0_0 a0_1 l0_2 a0_0 a0_1 x209002_4) = some (r1, r2, r3, r4, r5, r6) := by first | (rw [hji57] at H; exact H) | (simp only [hji57] at H ⊢; exact H)
                    have hji57_ : (if (wrap64 (x15_28 + (wrap64 (t210 + t211)))) < (rd l0_2 x83_4) then (wrap64 (x15_28 + (wrap64 (t210 + t211)))) else (rd l0_2 x83_4)) = ji57 := hji57
                    have H' := Aside0.mk H
                    clear H
                    go_wp2
                    repeat (go_quiet (fail); try go_wp2)
                    go_meet
                    case rel => exact ⟨_, (ji57), (by first | rfl | (simp; done) | (simp only [← hji57]; rw [shl_one_small _ (by assumption) (by omega)]; done) | (simp only [← hji57] <;> (first | rfl | simp)) | (simp [*]; done) | (refine congrArg (Value.int .i64) ?_; unfold wrap64; omega) | (simp only [shl_one_small _ (by assumption) (by omega)]; done) | (simp [*]; rw [shl_one_small _ (by assumption) (by omega)]; done)), H', ⟨by have := HJ7.out; have := HJ28.out; have := HJ32.out; have := HK4.out; first | omega | exact Nat.le_refl _⟩, ⟨dR_ HO_17⟩, ⟨dR_ HO_209002⟩, ⟨dB_ BK204⟩, ⟨dB_ BK205⟩, ⟨dB_ BK208⟩, ⟨dL3_ HB GE204 GE205 GE208⟩⟩
                  case rest =>
                   clear HC51
                   try clear c4
                   try clear c7
                   try clear c7b0
                   try clear c7b1
                   try clear c14
                   try clear c15
                   try clear c18
                   try clear c23
                   try clear c27
                   try clear c27b0
                   try clear c28
                   try clear c28b0
                   try clear c34
                   try clear c35
                   try clear c45
                   try clear c45b0
                   try clear c46
                   try clear c46b0
                   try clear c47
                   try clear c47b0
                   try clear c48
                   try clear c48b0
                   try clear c48b1
                   try clear hcz12_0
                   try clear hcz12_1
                   try clear hcz12_2
                   try clear hcz31_0
                   try clear hcz31_1
                   try clear hcz31_2
                   try clear hcz39_0
                   try clear hcz39_1
                   try clear hcz39_2
                   try clear hcz43_0
                   try clear hcz43_1
                   try clear hcz43_2
                   try clear hcz44_0
                   try clear hcz44_1
                   try clear hcz44_2
                   try clear hcz54_0
                   try clear hcz54_1
                   try clear hcz54_2
                   try clear hfz12_0
                   try clear hfz12_1
                   try clear hfz12_2
                   try clear hfz31_0
                   try clear hfz31_1
                   try clear hfz31_2
                   try clear hfz39_0
                   try clear hfz39_1
                   try clear hfz39_2
                   try clear hfz43_0
                   try clear hfz43_1
                   try clear hfz43_2
                   try clear hfz44_0
                   try clear hfz44_1
                   try clear hfz44_2
                   try clear hfz54_0
                   try clear hfz54_1
                   try clear hfz54_2
                   try clear hx207_0
                   try clear hx209_0
                   try clear p207
                   try clear p209
                   try clear q207
                   try clear q209
                   obtain ⟨kq, x24_50, rfl, HA, HJ50, HO_17, HO_209002, BK204, BK205, BK208, HB⟩ := hcut
                   cases kq with
                   | zero => exact absurd HA.out (by simp [hinterlandref02_Shift.j4])
                   | succ kj50 =>
                    have H := HA.out
                    clear HA
                    simp only [hinterlandref02_Shift.j4] at H
                    by_cases c58 : x209002_4.length < 17592186044416
                    ·rw [if_pos c58] at H
                     have LMc58 := Aside0.mk c58
                     clear c58
                     obtain ⟨y212, hy212⟩ : ∃ y_ : List Int, y_ = (x209002_4 ++ [x24_50]) := ⟨_, rfl⟩
                     replace H : (if x24_50 = (rd l0_2 x83_4) then (hinterlandref02_Shift.l0 kj50 a1 a2 a3 l4 x15_28 x17_4 x18_4 l0_2 (l0_2.length : Int) (wrap64 (x83_4 + 1)) a0_0 a0_1 l0_2 a0_0 a0_1 y212) else (if x17_4.length < 5864062014805 then ((hinterlandref02_Apart.f x24_50 (rd l0_2 x83_4)).bind fun t218 => (hinterlandref02_Shift.l0 kj50 a1 a2 a3 l4 x15_28 (x17_4 ++ [(⟨(Int.tmod x83_4 (wrap64 (a0_0 + 1))), (wrap64 (Int.tdiv x83_4 (wrap64 (a0_0 + 1)))), x24_50⟩ : S36)]) (wrap64 (x18_4 + (wrap64 (250 * t218)))) l0_2 (l0_2.length : Int) (wrap64 (x83_4 + 1)) a0_0 a0_1 l0_2 a0_0 a0_1 y212)) else (none))) = some (r1, r2, r3, r4, r5, r6) := by first | (rw [hy212]; with_reducible exact H) | (have H2_ := (Option.bind_some _ _).symm.trans H; rw [hy212]; with_reducible exact H2_) | (have H2_ := (Option.bind_some _ _).symm.trans H; with_reducible exact H2_) | with_reducible exact H | (rw [hy212]; exact H) | exact H
                     have Ny212 := Aside0.mk hy212
                     clear hy212
                     by_cases c59 : x24_50 = (rd l0_2 x83_4)
                     ·rw [if_pos c59] at H
                      have c59b0 : (x24_50 == (rd l0_2 x83_4)) = true := beq_iff_eq.mpr c59
                      have c59b1 : (x24_50 != (rd l0_2 x83_4)) = false := bne_eq_false_iff_eq.mpr c59
                      clear c59
                      have H' := Aside0.mk H
                      clear H
                      have hnb60 := NB208_204.out
                      have hnc60 := NB204_208.out
                      have hnb61 := NB208_205.out
                      have hnc61 := NB205_208.out
                      obtain ⟨hcz62_0, hcz62_1, hcz62_2, hfz62_0, hfz62_1, hfz62_2⟩ := cs3_ BK208.out
                      go_wp2_with (first | ((with_reducible refine gate_builtin (b := .append) (xs := #[.tmp 118, .tmp 120]) rfl ?_); at_builtin; refine Kd.R_append (Kd.int .i64) (w0 := w) w.heap.size rfl (.tmp 118) (.tmp 120) 22 3 (.int .i64 0) 8 rfl Try.underlying22 info3 rfl (by decide) (by omega) u209002 x209002_4 x24_50 [.int .i64 x24_50] (fun _ => True) (fun _ => False) rfl rfl ?aP (fun _ hk => hk.elim) ?aF ?aO ?aB ?aS ?aL ?_; (case aP => exact rfl); (case aB => exact (dL3_ HB GE204 GE205 GE208)); (case aF => exact (fun _ _ => trivial)); (case aO => exact (dR_ HO_209002)); (case aS => exact (below_size (dL3_ HB GE204 GE205 GE208))); (case aL => have := LMc58.out; omega); intro v213 w63 ho hb hg hat; rw [← Ny212.out] at ho; replace HO_17 := Aside0.mk (Kd.R_over' (dR_ HO_17) (Kd.R_typed (dR_ HO_209002)) (by decide) hg); replace BK204 := Aside0.mk (blk_grown (g := gb204) (o := .cells #[.int .i64 a0_0, .int .i64 a0_1, .slice (some ad207) l0_2.length c0_2] 24 (0, 0)) (dB_ BK204) hg (Kd.R_ne HO_209002.out BK204.out (by decide))); replace BK205 := Aside0.mk (blk_grown (g := gb205) (o := .cells #[.int .i64 0, .int .i64 0, .slice none 0 0] 24 (0, 0)) (dB_ BK205) hg (Kd.R_ne HO_209002.out BK205.out (by decide))); replace BK208 := Aside0.mk (blk_grown (g := gb208) (o := .cells #[.int .i64 a0_0, .int .i64 a0_1, u209002] 24 (0, 0)) (dB_ BK208) hg (Kd.R_ne HO_209002.out BK208.out (by decide))); replace HB := Aside0.mk (hb); have HO214 := Aside0.mk (ho); clear HO_209002; clear ho hb hg hat; obtain ⟨Ao64, co64, eo64⟩ := Kd.R_slice HO214.out; subst eo64; obtain ⟨hcz65_0, hcz65_1, hcz65_2, hfz65_0, hfz65_1, hfz65_2⟩ := cs3_ BK208.out))
                      go_roundg kj50
                      case measure => have := HJ7.out; have := HJ28.out; have := HJ32.out; have := HK4.out; have := HJ50.out; omega
                      case rel => exact ⟨(x17_4), (x18_4), (wrap64 (x83_4 + 1)), (y212), (.slice Ao64 y212.length co64), tS_, tS_, H', ⟨by have := HJ7.out; have := HJ28.out; have := HJ32.out; have := HK4.out; have := HJ50.out; omega⟩, ⟨by (with_reducible repeat (first | apply Kd.R_alloc | apply Kd.R_drewN | apply Kd.R_drew)); exact Kd.R_mono (Kd.R_far (p := ⟨gb208, 2, none⟩) (Kd.R_types HO_17.out BK208.out (by decide)) (fun _ hk => hk.2) (.slice Ao64 y212.length co64)) (fun _ hk => trivial)⟩, ⟨by (with_reducible repeat (first | apply Kd.R_alloc | apply Kd.R_drewN | apply Kd.R_drew)); exact Kd.R_mono (Kd.R_far (p := ⟨gb208, 2, none⟩) (Kd.R_types HO214.out BK208.out (by decide)) (fun _ hk => hk.2) (.slice Ao64 y212.length co64)) (fun _ hk => trivial)⟩, ⟨by (with_reducible repeat (first | refine blk_drewN ?_ _ | refine blk_drew ?_ | refine blk_alloc ?_ _)); refine blk_far ?_ NB204_208.out _; (with_reducible repeat (first | refine blk_drewN ?_ _ | refine blk_drew ?_ | refine blk_alloc ?_ _)); exact BK204.out⟩, ⟨by (with_reducible repeat (first | refine blk_drewN ?_ _ | refine blk_drew ?_ | refine blk_alloc ?_ _)); refine blk_far ?_ NB205_208.out _; (with_reducible repeat (first | refine blk_drewN ?_ _ | refine blk_drew ?_ | refine blk_alloc ?_ _)); exact BK205.out⟩, ⟨by (with_reducible repeat (first | refine blk_drewN ?_ _ | refine blk_drew ?_ | refine blk_alloc ?_ _)); refine blk_put (cs := #[.int .i64 a0_0, .int .i64 a0_1, u209002]) ?_ 2 _ rfl; (with_reducible repeat (first | refine blk_drewN ?_ _ | refine blk_drew ?_ | refine blk_alloc ?_ _)); exact BK208.out⟩, ⟨dL3_ HB GE204 GE205 GE208⟩⟩
                     ·rw [if_neg c59] at H
                      have c59b0 : (x24_50 == (rd l0_2 x83_4)) = false := beq_eq_false_iff_ne.mpr c59
                      have c59b1 : (x24_50 != (rd l0_2 x83_4)) = true := bne_iff_ne.mpr c59
                      by_cases c66 : x17_4.length < 5864062014805
                      ·rw [if_pos c66] at H
                       have LMc66 := Aside0.mk c66
                       clear c66
                       obtain ⟨y215, hy215⟩ : ∃ y_ : List (S36), y_ = (x17_4 ++ [(⟨(Int.tmod x83_4 (wrap64 (a0_0 + 1))), (wrap64 (Int.tdiv x83_4 (wrap64 (a0_0 + 1)))), x24_50⟩ : S36)]) := ⟨_, rfl⟩
                       replace H : ((hinterlandref02_Apart.f x24_50 (rd l0_2 x83_4)).bind fun t218 => (hinterlandref02_Shift.l0 kj50 a1 a2 a3 l4 x15_28 y215 (wrap64 (x18_4 + (wrap64 (250 * t218)))) l0_2 (l0_2.length : Int) (wrap64 (x83_4 + 1)) a0_0 a0_1 l0_2 a0_0 a0_1 y212)) = some (r1, r2, r3, r4, r5, r6) := by first | (rw [hy215]; with_reducible exact H) | (have H2_ := (Option.bind_some _ _).symm.trans H; rw [hy215]; with_reducible exact H2_) | (have H2_ := (Option.bind_some _ _).symm.trans H; with_reducible exact H2_) | with_reducible exact H | (rw [hy215]; exact H) | exact H
                       have Ny215 := Aside0.mk hy215
                       clear hy215
                       replace H := Option.bind_eq_some_iff.mp H
                       obtain ⟨t218, A670, H⟩ := H
                       replace H : (hinterlandref02_Shift.l0 kj50 a1 a2 a3 l4 x15_28 y215 (wrap64 (x18_4 + (wrap64 (250 * t218)))) l0_2 (l0_2.length : Int) (wrap64 (x83_4 + 1)) a0_0 a0_1 l0_2 a0_0 a0_1 y212) = some (r1, r2, r3, r4, r5, r6) := H
                       have A67 := Aside0.mk A670
                       clear A670
                       have H' := Aside0.mk H
                       clear H
                       have hnb68 := NB208_204.out
                       have hnc68 := NB204_208.out
                       have hnb69 := NB208_205.out
                       have hnc69 := NB205_208.out
                       obtain ⟨hcz70_0, hcz70_1, hcz70_2, hfz70_0, hfz70_1, hfz70_2⟩ := cs3_ BK208.out
                       go_wp2_with (first | ((with_reducible refine gate_builtin (b := .append) (xs := #[.tmp 118, .tmp 120]) rfl ?_); at_builtin; refine Kd.R_append (Kd.int .i64) (w0 := w) w.heap.size rfl (.tmp 118) (.tmp 120) 22 3 (.int .i64 0) 8 rfl Try.underlying22 info3 rfl (by decide) (by omega) u209002 x209002_4 x24_50 [.int .i64 x24_50] (fun _ => True) (fun _ => False) rfl rfl ?aP (fun _ hk => hk.elim) ?aF ?aO ?aB ?aS ?aL ?_; (case aP => exact rfl); (case aB => exact (dL3_ HB GE204 GE205 GE208)); (case aF => exact (fun _ _ => trivial)); (case aO => exact (dR_ HO_209002)); (case aS => exact (below_size (dL3_ HB GE204 GE205 GE208))); (case aL => have := LMc58.out; omega); intro v213 w71 ho hb hg hat; rw [← Ny212.out] at ho; replace HO_17 := Aside0.mk (Kd.R_over' (dR_ HO_17) (Kd.R_typed (dR_ HO_209002)) (by decide) hg); replace BK204 := Aside0.mk (blk_grown (g := gb204) (o := .cells #[.int .i64 a0_0, .int .i64 a0_1, .slice (some ad207) l0_2.length c0_2] 24 (0, 0)) (dB_ BK204) hg (Kd.R_ne HO_209002.out BK204.out (by decide))); replace BK205 := Aside0.mk (blk_grown (g := gb205) (o := .cells #[.int .i64 0, .int .i64 0, .slice none 0 0] 24 (0, 0)) (dB_ BK205) hg (Kd.R_ne HO_209002.out BK205.out (by decide))); replace BK208 := Aside0.mk (blk_grown (g := gb208) (o := .cells #[.int .i64 a0_0, .int .i64 a0_1, u209002] 24 (0, 0)) (dB_ BK208) hg (Kd.R_ne HO_209002.out BK208.out (by decide))); replace HB := Aside0.mk (hb); have HO214 := Aside0.mk (ho); clear HO_209002; clear ho hb hg hat; obtain ⟨Ao72, co72, eo72⟩ := Kd.R_slice HO214.out; subst eo72; obtain ⟨hcz73_0, hcz73_1, hcz73_2, hfz73_0, hfz73_1, hfz73_2⟩ := cs3_ BK208.out) | ((with_reducible refine gate_builtin (b := .append) (xs := #[.tmp 126, .tmp 131]) rfl ?_); at_builtin; refine Kd.R_append k36 (w0 := w) w.heap.size rfl (.tmp 126) (.tmp 131) 30 36 (.agg #[(.int .i64 0), (.int .i64 0), (.int .i64 0)]) 24 rfl Try.underlying30 info36 rfl (by decide) (by omega) u17 x17_4 (⟨(Int.tmod x83_4 (wrap64 (a0_0 + 1))), (wrap64 (Int.tdiv x83_4 (wrap64 (a0_0 + 1)))), x24_50⟩ : S36) [.int .i64 (Int.tmod x83_4 (wrap64 (a0_0 + 1))), .int .i64 (wrap64 (Int.tdiv x83_4 (wrap64 (a0_0 + 1)))), .int .i64 x24_50] (fun _ => True) (fun _ => False) rfl (by first | (go_simp; done) | (go_simp; rfl)) ?aP (fun _ hk => hk.elim) ?aF ?aO ?aB ?aS ?aL ?_; (case aP => exact k36_mkM _ _ _ (⟨(Int.tmod x83_4 (wrap64 (a0_0 + 1))), (wrap64 (Int.tdiv x83_4 (wrap64 (a0_0 + 1)))), x24_50⟩ : S36)); (case aB => exact (dL3_ HB GE204 GE205 GE208)); (case aF => exact (fun _ _ => trivial)); (case aO => exact (by (with_reducible repeat (first | apply Kd.R_alloc | apply Kd.R_drewN | apply Kd.R_drew)); exact Kd.R_mono (Kd.R_far (p := ⟨gb208, 2, none⟩) (Kd.R_types HO_17.out BK208.out (by decide)) (fun _ hk => hk.2) (.slice Ao72 y212.length co72)) (fun _ hk => trivial))); (case aS => exact (below_size (dL3_ HB GE204 GE205 GE208))); (case aL => have := LMc66.out; omega); intro v216 w74 ho hb hg hat; rw [← Ny215.out] at ho; replace BK204 := Aside0.mk (blk_grown (g := gb204) (o := .cells #[.int .i64 a0_0, .int .i64 a0_1, .slice (some ad207) l0_2.length c0_2] 24 (0, 0)) (by (with_reducible repeat (first | refine blk_drewN ?_ _ | refine blk_drew ?_ | refine blk_alloc ?_ _)); refine blk_far ?_ NB204_208.out _; (with_reducible repeat (first | refine blk_drewN ?_ _ | refine blk_drew ?_ | refine blk_alloc ?_ _)); exact BK204.out) hg (Kd.R_ne HO_17.out BK204.out (by decide))); replace BK205 := Aside0.mk (blk_grown (g := gb205) (o := .cells #[.int .i64 0, .int .i64 0, .slice none 0 0] 24 (0, 0)) (by (with_reducible repeat (first | refine blk_drewN ?_ _ | refine blk_drew ?_ | refine blk_alloc ?_ _)); refine blk_far ?_ NB205_208.out _; (with_reducible repeat (first | refine blk_drewN ?_ _ | refine blk_drew ?_ | refine blk_alloc ?_ _)); exact BK205.out) hg (Kd.R_ne HO_17.out BK205.out (by decide))); replace HO214 := Aside0.mk (Kd.R_over' (by (with_reducible repeat (first | apply Kd.R_alloc | apply Kd.R_drewN | apply Kd.R_drew)); exact (Kd.R_mono (Kd.R_far (p := ⟨gb208, 2, none⟩) (Kd.R_types HO214.out BK208.out (by decide)) (fun _ hk => hk.2) (.slice Ao72 y212.length co72)) (fun _ h_ => h_.1))) (Kd.R_typed (by (with_reducible repeat (first | apply Kd.R_alloc | apply Kd.R_drewN | apply Kd.R_drew)); exact (Kd.R_mono (Kd.R_far (p := ⟨gb208, 2, none⟩) (Kd.R_types HO_17.out BK208.out (by decide)) (fun _ hk => hk.2) (.slice Ao72 y212.length co72)) (fun _ h_ => h_.1)))) (by decide) hg); replace BK208 := Aside0.mk (blk_grown (g := gb208) (o := .cells #[.int .i64 a0_0, .int .i64 a0_1, .slice Ao72 y212.length co72] 24 (0, 0)) (by (with_reducible repeat (first | refine blk_drewN ?_ _ | refine blk_drew ?_ | refine blk_alloc ?_ _)); refine blk_put (cs := #[.int .i64 a0_0, .int .i64 a0_1, u209002]) ?_ 2 _ rfl; (with_reducible repeat (first | refine blk_drewN ?_ _ | refine blk_drew ?_ | refine blk_alloc ?_ _)); exact BK208.out) hg (Kd.R_ne HO_17.out BK208.out (by decide))); replace HB := Aside0.mk (hb); have HO217 := Aside0.mk (ho); clear HO_17; clear ho hb hg hat) | (go_at_call 44; (with_reducible refine (hinterlandref02_Apart.calls x24_50 (rd l0_2 x83_4) t218 _ A67.out).mono ?_); rintro e w' ⟨rfl, ⟨nd, rfl⟩⟩; (try first | exact ⟨rfl, _, World.drewN_drewN _ _ _⟩ | exact ⟨rfl, _, Eq.trans (World.drewN_drewN _ _ _) (congrArg (World.drewN _) (Nat.add_assoc _ _ _))⟩)))
                       go_roundg kj50
                       case measure => have := HJ7.out; have := HJ28.out; have := HJ32.out; have := HK4.out; have := HJ50.out; omega
                       case rel => exact ⟨(y215), (wrap64 (x18_4 + (wrap64 (250 * t218)))), (wrap64 (x83_4 + 1)), (y212), (.slice Ao72 y212.length co72), tS_, tS_, H', ⟨by have := HJ7.out; have := HJ28.out; have := HJ32.out; have := HK4.out; have := HJ50.out; omega⟩, ⟨dR_ HO217⟩, ⟨dR_ HO214⟩, ⟨dB_ BK204⟩, ⟨dB_ BK205⟩, ⟨dB_ BK208⟩, ⟨dL3_ HB GE204 GE205 GE208⟩⟩
                      ·rw [if_neg c66] at H
                       exact absurd H (by simp)
                    ·rw [if_neg c58] at H
                     exact absurd H (by simp)
                ·rw [if_neg c47] at H
                 exact absurd H (by simp)
               ·rw [if_neg c46] at H
                exact absurd H (by simp)
              ·rw [if_neg c45] at H
               have c45b0 : decide (x83_4 < (l0_2.length : Int)) = false := decide_eq_false c45
               clear c45
               have H' := Aside0.mk H
               clear H
               obtain ⟨Ao75, co75, eo75⟩ := Kd.R_slice HO_17.out
               subst eo75
               go_wp2
               repeat (go_quiet (fail); try go_wp2)
               go_loopg [142] k4 (fun kq v142 w' => ∃ (x142_5 : Int) (x206000_5 : Int) (x206001_5 : Int), v142 = .int .i64 x142_5 ∧ Aside0 (hinterlandref02_Shift.l1 kq l4 x17_4 x18_4 x17_4 (x17_4.length : Int) x142_5 a0_0 a0_1 l0_2 a0_0 a0_1 x209002_4 = some (r1, r2, r3, r4, r5, r6)) ∧ Aside0 (kq ≤ k4) ∧ Aside0 (Kd.R k36 36 w' w.heap.size (fun _ => True) (.slice Ao75 x17_4.length co75) x17_4) ∧ Aside0 (Kd.R k36 36 w' w.heap.size (fun _ => True) (.slice Ao75 x17_4.length co75) x17_4) ∧ Aside0 (Kd.R (Kd.int .i64) 3 w' w.heap.size (fun _ => True) u209002 x209002_4) ∧ Aside0 (w'.heap[gb204]? = some (.cells #[.int .i64 a0_0, .int .i64 a0_1, (.slice (some ad207) l0_2.length c0_2)] 24 (0, 0))) ∧ Aside0 (w'.heap[gb205]? = some (.cells #[.int .i64 x206000_5, .int .i64 x206001_5, (.slice none 0 0)] 24 (0, 0))) ∧ Aside0 (w'.heap[gb208]? = some (.cells #[.int .i64 a0_0, .int .i64 a0_1, u209002] 24 (0, 0))) ∧ Aside0 (Below w.heap.size w w'))
               case atStart => exact ⟨(0), (0), (0), tS_, H', ⟨Nat.le_refl _⟩, ⟨dR_ HO_17⟩, ⟨dR_ HO_17⟩, ⟨dR_ HO_209002⟩, ⟨dB_ BK204⟩, ⟨dB_ BK205⟩, ⟨dB_ BK208⟩, ⟨dL3_ HB GE204 GE205 GE208⟩⟩
               case round =>
                clear H'
                try clear c4
                try clear c7
                try clear c7b0
                try clear c7b1
                try clear c14
                try clear c15
                try clear c18
                try clear c23
                try clear c27
                try clear c27b0
                try clear c28
                try clear c28b0
                try clear c34
                try clear c35
                try clear c45
                try clear c45b0
                try clear c46
                try clear c47
                try clear c48
                try clear c58
                try clear c59
                try clear c66
                try clear hcz12_0
                try clear hcz12_1
                try clear hcz12_2
                try clear hcz31_0
                try clear hcz31_1
                try clear hcz31_2
                try clear hcz39_0
                try clear hcz39_1
                try clear hcz39_2
                try clear hcz43_0
                try clear hcz43_1
                try clear hcz43_2
                try clear hcz44_0
                try clear hcz44_1
                try clear hcz44_2
                try clear hfz12_0
                try clear hfz12_1
                try clear hfz12_2
                try clear hfz31_0
                try clear hfz31_1
                try clear hfz31_2
                try clear hfz39_0
                try clear hfz39_1
                try clear hfz39_2
                try clear hfz43_0
                try clear hfz43_1
                try clear hfz43_2
                try clear hfz44_0
                try clear hfz44_1
                try clear hfz44_2
                try clear hx207_0
                try clear p207
                try clear q207
                obtain ⟨x142_5, x206000_5, x206001_5, rfl, HA, HK5, HO_17, HO_140, HO_209002, BK204, BK205, BK208, HB⟩ := hrel
                cases gk with
                | zero => exact absurd HA.out (by simp [hinterlandref02_Shift.l1])
                | succ k5 =>
                 have H := HA.out
                 clear HA
                 simp only [hinterlandref02_Shift.l1] at H
                 by_cases c76 : x142_5 < (x17_4.length : Int)
                 ·rw [if_pos c76] at H
                  have c76b0 : decide (x142_5 < (x17_4.length : Int)) = true := decide_eq_true c76
                  clear c76
                  by_cases c77 : 0 ≤ x142_5
                  ·rw [if_pos c77] at H
                   have c77b0 : decide (0 ≤ x142_5) = true := decide_eq_true c77
                   clear c77
                   by_cases c78 : x142_5 < (x17_4.length : Int)
                   ·rw [if_pos c78] at H
                    have c78b0 : decide (x142_5 < (x17_4.length : Int)) = true := decide_eq_true c78
                    clear c78
                    replace H := Option.bind_eq_some_iff.mp H
                    obtain ⟨t221, A790, H⟩ := H
                    replace H : (if t221 = true then (some (0, 0, ([] : List Int), ([] : List (S36)), 0, 7)) else (hinterlandref02_Shift.l1 k5 l4 x17_4 x18_4 x17_4 (x17_4.length : Int) (wrap64 (x142_5 + 1)) a0_0 a0_1 l0_2 a0_0 a0_1 x209002_4)) = some (r1, r2, r3, r4, r5, r6) := H
                    have A79 := Aside0.mk A790
                    clear A790
                    by_cases c80 : t221 = true
                    ·subst c80
                     have H1 : (some (0, 0, ([] : List Int), ([] : List (S36)), 0, 7)) = some (r1, r2, r3, r4, r5, r6) := by rw [if_pos rfl] at H; exact H
                     clear H
                     have H := H1
                     clear H1
                     simp only [Option.some.injEq, Prod.mk.injEq] at H
                     obtain ⟨rfl, rfl, rfl, rfl, rfl, rfl⟩ := H
                     have p219 : 0 ≤ (x142_5 : Int) := of_decide_eq_true tW_
                     have q219 : x142_5 < (x17_4.length : Int) := of_decide_eq_true tW_
                     obtain ⟨ad219, e219, hx219_0, hx219_1, hx219_2⟩ := at_T36 (Kd.R_reads' HO_140.out).2.2 x142_5 p219 q219
                     cases e219
                     replace p219 := eq_true p219
                     replace q219 := eq_true q219
                     go_wp2_with (first | ((with_reducible refine gate_dst (N := 26) rfl ?_); refine box_event ?hg (N := 26) ?hd (cs := #[.int .i64 0, .int .i64 0, .int .i64 0]) (t := 36) ?hr ?_; (case hd => rfl); (case hg => rfl); (case hr => first | (go_simp; done) | (go_simp; rfl)); intro gb220 hg w81 hbox hb; replace HO_17 := Aside0.mk (Kd.R_below (Kd.R_elderB (dR_ HO_17) gb220 (Nat.le_of_eq hg.symm)) hb); replace HO_140 := Aside0.mk (Kd.R_below (Kd.R_elderB (dR_ HO_140) gb220 (Nat.le_of_eq hg.symm)) hb); replace HO_209002 := Aside0.mk (Kd.R_below (dR_ HO_209002) hb); have BK220 := Aside0.mk (hbox); have GW220 := Aside0.mk ((dS_ hg (dL3_ HB GE204 GE205 GE208) : w.heap.size ≤ gb220)); have GE220 := Aside0.mk ((dS_ hg (dL3_ HB GE204 GE205 GE208) : w.heap.size ≤ gb220)); replace HB := Aside0.mk (below_step (dL3_ HB GE204 GE205 GE208) hb); have NB204_220 := Aside0.mk ((by rw [hg]; exact Nat.ne_of_lt (blk_lt (dB_ BK204)) : gb204 ≠ gb220)); have NB220_204 := Aside0.mk ((by rw [hg]; exact Nat.ne_of_gt (blk_lt (dB_ BK204)) : gb220 ≠ gb204)); replace BK204 := Aside0.mk (blk_below (g := gb204) (o := .cells #[.int .i64 a0_0, .int .i64 a0_1, .slice (some ad207) l0_2.length c0_2] 24 (0, 0)) (dB_ BK204) hb); have NB205_220 := Aside0.mk ((by rw [hg]; exact Nat.ne_of_lt (blk_lt (dB_ BK205)) : gb205 ≠ gb220)); have NB220_205 := Aside0.mk ((by rw [hg]; exact Nat.ne_of_gt (blk_lt (dB_ BK205)) : gb220 ≠ gb205)); replace BK205 := Aside0.mk (blk_below (g := gb205) (o := .cells #[.int .i64 x206000_5, .int .i64 x206001_5, .slice none 0 0] 24 (0, 0)) (dB_ BK205) hb); have NB208_220 := Aside0.mk ((by rw [hg]; exact Nat.ne_of_lt (blk_lt (dB_ BK208)) : gb208 ≠ gb220)); have NB220_208 := Aside0.mk ((by rw [hg]; exact Nat.ne_of_gt (blk_lt (dB_ BK208)) : gb220 ≠ gb208)); replace BK208 := Aside0.mk (blk_below (g := gb208) (o := .cells #[.int .i64 a0_0, .int .i64 a0_1, u209002] 24 (0, 0)) (dB_ BK208) hb); clear hb hbox hg; have hnb82 := NB220_204.out; have hnc82 := NB204_220.out; have hnb83 := NB220_205.out; have hnc83 := NB205_220.out; have hnb84 := NB220_208.out; have hnc84 := NB208_220.out; obtain ⟨hcz85_0, hcz85_1, hcz85_2, hfz85_0, hfz85_1, hfz85_2⟩ := cs3_ BK220.out; have hnb86 := NB204_205.out; have hnc86 := NB205_204.out; have hnb87 := NB204_208.out; have hnc87 := NB208_204.out; obtain ⟨hcz88_0, hcz88_1, hcz88_2, hfz88_0, hfz88_1, hfz88_2⟩ := cs3_ BK204.out) | (go_at_call 48; (with_reducible refine (hinterlandref02_held.calls k5 a0_0 a0_1 _ _ l0_2 (wrap64 ((wrap64 (((rd_T36 x17_4 x142_5).f1) * (wrap64 (a0_0 + 1)))) + ((rd_T36 x17_4 x142_5).f0))) _ _ l4 true _ ?side1 ?side2 ?side3 ?side4 A79.out).mono ?_); (case side1 => exact Kd.C_below HR0_2.out (dL4_ HB GE204 GE205 GE208 GE220)); (case side2 => exact HC0_2.out); (case side3 => exact Kd.C_below HR4.out (dL4_ HB GE204 GE205 GE208 GE220)); (case side4 => exact HC4.out); rintro e w89 ⟨rfl, hb⟩; replace HO_17 := Aside0.mk (Kd.R_below (by (with_reducible repeat (first | apply Kd.R_alloc | apply Kd.R_drewN | apply Kd.R_drew)); exact (Kd.R_mono (Kd.R_far (p := ⟨gb220, 2, none⟩) (Kd.R_far (p := ⟨gb220, 1, none⟩) (Kd.R_far (p := ⟨gb220, 0, none⟩) (Kd.R_mono HO_17.out (fun k_ hk => (⟨hk, hk.2⟩ : _ ∧ k_ ≠ gb220))) (fun _ hk => hk.2) (.int .i64 ((rd_T36 x17_4 x142_5).f0))) (fun _ hk => hk.2) (.int .i64 ((rd_T36 x17_4 x142_5).f1))) (fun _ hk => hk.2) (.int .i64 ((rd_T36 x17_4 x142_5).f2))) (fun _ h_ => h_.1))) hb); replace HO_140 := Aside0.mk (Kd.R_below (by (with_reducible repeat (first | apply Kd.R_alloc | apply Kd.R_drewN | apply Kd.R_drew)); exact (Kd.R_mono (Kd.R_far (p := ⟨gb220, 2, none⟩) (Kd.R_far (p := ⟨gb220, 1, none⟩) (Kd.R_far (p := ⟨gb220, 0, none⟩) (Kd.R_mono HO_140.out (fun k_ hk => (⟨hk, hk.2⟩ : _ ∧ k_ ≠ gb220))) (fun _ hk => hk.2) (.int .i64 ((rd_T36 x17_4 x142_5).f0))) (fun _ hk => hk.2) (.int .i64 ((rd_T36 x17_4 x142_5).f1))) (fun _ hk => hk.2) (.int .i64 ((rd_T36 x17_4 x142_5).f2))) (fun _ h_ => h_.1))) hb); replace HO_209002 := Aside0.mk (Kd.R_below (by (with_reducible repeat (first | apply Kd.R_alloc | apply Kd.R_drewN | apply Kd.R_drew)); exact (Kd.R_mono (Kd.R_far (p := ⟨gb220, 2, none⟩) (Kd.R_far (p := ⟨gb220, 1, none⟩) (Kd.R_far (p := ⟨gb220, 0, none⟩) (Kd.R_types HO_209002.out BK220.out (by decide)) (fun _ hk => hk.2) (.int .i64 ((rd_T36 x17_4 x142_5).f0))) (fun _ hk => hk.2) (.int .i64 ((rd_T36 x17_4 x142_5).f1))) (fun _ hk => hk.2) (.int .i64 ((rd_T36 x17_4 x142_5).f2))) (fun _ h_ => h_.1))) hb); replace BK204 := Aside0.mk (blk_below (g := gb204) (o := .cells #[.int .i64 a0_0, .int .i64 a0_1, .slice (some ad207) l0_2.length c0_2] 24 (0, 0)) (by (with_reducible repeat (first | refine blk_drewN ?_ _ | refine blk_drew ?_ | refine blk_alloc ?_ _)); refine blk_far ?_ NB204_220.out _; (with_reducible repeat (first | refine blk_drewN ?_ _ | refine blk_drew ?_ | refine blk_alloc ?_ _)); refine blk_far ?_ NB204_220.out _; (with_reducible repeat (first | refine blk_drewN ?_ _ | refine blk_drew ?_ | refine blk_alloc ?_ _)); refine blk_far ?_ NB204_220.out _; (with_reducible repeat (first | refine blk_drewN ?_ _ | refine blk_drew ?_ | refine blk_alloc ?_ _)); exact BK204.out) hb); replace BK205 := Aside0.mk (blk_below (g := gb205) (o := .cells #[.int .i64 x206000_5, .int .i64 x206001_5, .slice none 0 0] 24 (0, 0)) (by (with_reducible repeat (first | refine blk_drewN ?_ _ | refine blk_drew ?_ | refine blk_alloc ?_ _)); refine blk_far ?_ NB205_220.out _; (with_reducible repeat (first | refine blk_drewN ?_ _ | refine blk_drew ?_ | refine blk_alloc ?_ _)); refine blk_far ?_ NB205_220.out _; (with_reducible repeat (first | refine blk_drewN ?_ _ | refine blk_drew ?_ | refine blk_alloc ?_ _)); refine blk_far ?_ NB205_220.out _; (with_reducible repeat (first | refine blk_drewN ?_ _ | refine blk_drew ?_ | refine blk_alloc ?_ _)); exact BK205.out) hb); replace BK208 := Aside0.mk (blk_below (g := gb208) (o := .cells #[.int .i64 a0_0, .int .i64 a0_1, u209002] 24 (0, 0)) (by (with_reducible repeat (first | refine blk_drewN ?_ _ | refine blk_drew ?_ | refine blk_alloc ?_ _)); refine blk_far ?_ NB208_220.out _; (with_reducible repeat (first | refine blk_drewN ?_ _ | refine blk_drew ?_ | refine blk_alloc ?_ _)); refine blk_far ?_ NB208_220.out _; (with_reducible repeat (first | refine blk_drewN ?_ _ | refine blk_drew ?_ | refine blk_alloc ?_ _)); refine blk_far ?_ NB208_220.out _; (with_reducible repeat (first | refine blk_drewN ?_ _ | refine blk_drew ?_ | refine blk_alloc ?_ _)); exact BK208.out) hb); replace BK220 := Aside0.mk (blk_below (g := gb220) (o := .cells #[.int .i64 ((rd_T36 x17_4 x142_5).f0), .int .i64 ((rd_T36 x17_4 x142_5).f1), .int .i64 ((rd_T36 x17_4 x142_5).f2)] 36 (0, 0)) (by (with_reducible repeat (first | refine blk_drewN ?_ _ | refine blk_drew ?_ | refine blk_alloc ?_ _)); refine blk_put (cs := #[.int .i64 ((rd_T36 x17_4 x142_5).f0), .int .i64 ((rd_T36 x17_4 x142_5).f1), .int .i64 0]) ?_ 2 _ rfl; (with_reducible repeat (first | refine blk_drewN ?_ _ | refine blk_drew ?_ | refine blk_alloc ?_ _)); refine blk_put (cs := #[.int .i64 ((rd_T36 x17_4 x142_5).f0), .int .i64 0, .int .i64 0]) ?_ 1 _ rfl; (with_reducible repeat (first | refine blk_drewN ?_ _ | refine blk_drew ?_ | refine blk_alloc ?_ _)); refine blk_put (cs := #[.int .i64 0, .int .i64 0, .int .i64 0]) ?_ 0 _ rfl; (with_reducible repeat (first | refine blk_drewN ?_ _ | refine blk_drew ?_ | refine blk_alloc ?_ _)); exact BK220.out) hb); replace HB := Aside0.mk (below_step (dL4_ HB GE204 GE205 GE208 GE220) hb); have hnb90 := NB205_208.out; have hnc90 := NB208_205.out; obtain ⟨hcz91_0, hcz91_1, hcz91_2, hfz91_0, hfz91_1, hfz91_2⟩ := cs3_ BK205.out))
                     refine bodyPost_ret (results_list (rs := [.cell 10 24, .tmp 11, .tmp 12, .tmp 13]) rfl (by simp) (.cell gb205 24 #[.int .i64 0, .int .i64 0, .slice none 0 0] (0, 0) _ rfl (by (with_reducible repeat (first | refine blk_drewN ?_ _ | refine blk_drew ?_ | refine blk_alloc ?_ _)); refine blk_put (cs := #[.int .i64 0, .int .i64 0, .slice none 0 0]) ?_ 2 _ rfl; (with_reducible repeat (first | refine blk_drewN ?_ _ | refine blk_drew ?_ | refine blk_alloc ?_ _)); refine blk_put (cs := #[.int .i64 0, .int .i64 x206001_5, .slice none 0 0]) ?_ 1 _ rfl; (with_reducible repeat (first | refine blk_drewN ?_ _ | refine blk_drew ?_ | refine blk_alloc ?_ _)); refine blk_put (cs := #[.int .i64 x206000_5, .int .i64 x206001_5, .slice none 0 0]) ?_ 0 _ rfl; (with_reducible repeat (first | refine blk_drewN ?_ _ | refine blk_drew ?_ | refine blk_alloc ?_ _)); exact BK205.out) Try.underlying24 rfl (by kernel_rfl) (.tmp (.tmp (.tmp .nil))))) rfl ?_
                     exact ⟨_, _, by first | rfl | (simp [errW_none, errW_some] <;> rfl) | (simp only [← hji26]; first | rfl | (simp [errW_none, errW_some] <;> rfl)) | (simp [*, errW_none, errW_some] <;> rfl), by first | exact Kd.R_nil _ _ _ _ _ | exact Kd.N_nil _ _ _ _ _ | exact Kd.V_nil _ _ _ _ _ | exact Kd.Q_nil _ _ _ _ _ | exact Kd.S_nil _ _ _ _ _, by first | exact Kd.R_nil _ _ _ _ _ | exact Kd.N_nil _ _ _ _ _ | exact Kd.V_nil _ _ _ _ _ | exact Kd.Q_nil _ _ _ _ _ | exact Kd.S_nil _ _ _ _ _, dL4_ HB GE204 GE205 GE208 GE220⟩
                    ·replace c80 := Bool.eq_false_iff.mpr c80
                     subst c80
                     have H1 : (hinterlandref02_Shift.l1 k5 l4 x17_4 x18_4 x17_4 (x17_4.length : Int) (wrap64 (x142_5 + 1)) a0_0 a0_1 l0_2 a0_0 a0_1 x209002_4) = some (r1, r2, r3, r4, r5, r6) := by rw [if_neg (show ¬ (false = true) by decide)] at H; exact H
                     clear H
                     have H := H1
                     clear H1
                     have H' := Aside0.mk H
                     clear H
                     have p219 : 0 ≤ (x142_5 : Int) := of_decide_eq_true tW_
                     have q219 : x142_5 < (x17_4.length : Int) := of_decide_eq_true tW_
                     obtain ⟨ad219, e219, hx219_0, hx219_1, hx219_2⟩ := at_T36 (Kd.R_reads' HO_140.out).2.2 x142_5 p219 q219
                     cases e219
                     replace p219 := eq_true p219
                     replace q219 := eq_true q219
                     go_wp2_with (first | ((with_reducible refine gate_dst (N := 26) rfl ?_); refine box_event ?hg (N := 26) ?hd (cs := #[.int .i64 0, .int .i64 0, .int .i64 0]) (t := 36) ?hr ?_; (case hd => rfl); (case hg => rfl); (case hr => first | (go_simp; done) | (go_simp; rfl)); intro gb220 hg w92 hbox hb; replace HO_17 := Aside0.mk (Kd.R_below (Kd.R_elderB (dR_ HO_17) gb220 (Nat.le_of_eq hg.symm)) hb); replace HO_140 := Aside0.mk (Kd.R_below (Kd.R_elderB (dR_ HO_140) gb220 (Nat.le_of_eq hg.symm)) hb); replace HO_209002 := Aside0.mk (Kd.R_below (dR_ HO_209002) hb); have BK220 := Aside0.mk (hbox); have GW220 := Aside0.mk ((dS_ hg (dL3_ HB GE204 GE205 GE208) : w.heap.size ≤ gb220)); have GE220 := Aside0.mk ((dS_ hg (dL3_ HB GE204 GE205 GE208) : w.heap.size ≤ gb220)); replace HB := Aside0.mk (below_step (dL3_ HB GE204 GE205 GE208) hb); have NB204_220 := Aside0.mk ((by rw [hg]; exact Nat.ne_of_lt (blk_lt (dB_ BK204)) : gb204 ≠ gb220)); have NB220_204 := Aside0.mk ((by rw [hg]; exact Nat.ne_of_gt (blk_lt (dB_ BK204)) : gb220 ≠ gb204)); replace BK204 := Aside0.mk (blk_below (g := gb204) (o := .cells #[.int .i64 a0_0, .int .i64 a0_1, .slice (some ad207) l0_2.length c0_2] 24 (0, 0)) (dB_ BK204) hb); have NB205_220 := Aside0.mk ((by rw [hg]; exact Nat.ne_of_lt (blk_lt (dB_ BK205)) : gb205 ≠ gb220)); have NB220_205 := Aside0.mk ((by rw [hg]; exact Nat.ne_of_gt (blk_lt (dB_ BK205)) : gb220 ≠ gb205)); replace BK205 := Aside0.mk (blk_below (g := gb205) (o := .cells #[.int .i64 x206000_5, .int .i64 x206001_5, .slice none 0 0] 24 (0, 0)) (dB_ BK205) hb); have NB208_220 := Aside0.mk ((by rw [hg]; exact Nat.ne_of_lt (blk_lt (dB_ BK208)) : gb208 ≠ gb220)); have NB220_208 := Aside0.mk ((by rw [hg]; exact Nat.ne_of_gt (blk_lt (dB_ BK208)) : gb220 ≠ gb208)); replace BK208 := Aside0.mk (blk_below (g := gb208) (o := .cells #[.int .i64 a0_0, .int .i64 a0_1, u209002] 24 (0, 0)) (dB_ BK208) hb); clear hb hbox hg; have hnb93 := NB220_204.out; have hnc93 := NB204_220.out; have hnb94 := NB220_205.out; have hnc94 := NB205_220.out; have hnb95 := NB220_208.out; have hnc95 := NB208_220.out; obtain ⟨hcz96_0, hcz96_1, hcz96_2, hfz96_0, hfz96_1, hfz96_2⟩ := cs3_ BK220.out; have hnb97 := NB204_205.out; have hnc97 := NB205_204.out; have hnb98 := NB204_208.out; have hnc98 := NB208_204.out; obtain ⟨hcz99_0, hcz99_1, hcz99_2, hfz99_0, hfz99_1, hfz99_2⟩ := cs3_ BK204.out) | (go_at_call 48; (with_reducible refine (hinterlandref02_held.calls k5 a0_0 a0_1 _ _ l0_2 (wrap64 ((wrap64 (((rd_T36 x17_4 x142_5).f1) * (wrap64 (a0_0 + 1)))) + ((rd_T36 x17_4 x142_5).f0))) _ _ l4 false _ ?side1 ?side2 ?side3 ?side4 A79.out).mono ?_); (case side1 => exact Kd.C_below HR0_2.out (dL4_ HB GE204 GE205 GE208 GE220)); (case side2 => exact HC0_2.out); (case side3 => exact Kd.C_below HR4.out (dL4_ HB GE204 GE205 GE208 GE220)); (case side4 => exact HC4.out); rintro e w100 ⟨rfl, hb⟩; replace HO_17 := Aside0.mk (Kd.R_below (by (with_reducible repeat (first | apply Kd.R_alloc | apply Kd.R_drewN | apply Kd.R_drew)); exact (Kd.R_mono (Kd.R_far (p := ⟨gb220, 2, none⟩) (Kd.R_far (p := ⟨gb220, 1, none⟩) (Kd.R_far (p := ⟨gb220, 0, none⟩) (Kd.R_mono HO_17.out (fun k_ hk => (⟨hk, hk.2⟩ : _ ∧ k_ ≠ gb220))) (fun _ hk => hk.2) (.int .i64 ((rd_T36 x17_4 x142_5).f0))) (fun _ hk => hk.2) (.int .i64 ((rd_T36 x17_4 x142_5).f1))) (fun _ hk => hk.2) (.int .i64 ((rd_T36 x17_4 x142_5).f2))) (fun _ h_ => h_.1))) hb); replace HO_140 := Aside0.mk (Kd.R_below (by (with_reducible repeat (first | apply Kd.R_alloc | apply Kd.R_drewN | apply Kd.R_drew)); exact (Kd.R_mono (Kd.R_far (p := ⟨gb220, 2, none⟩) (Kd.R_far (p := ⟨gb220, 1, none⟩) (Kd.R_far (p := ⟨gb220, 0, none⟩) (Kd.R_mono HO_140.out (fun k_ hk => (⟨hk, hk.2⟩ : _ ∧ k_ ≠ gb220))) (fun _ hk => hk.2) (.int .i64 ((rd_T36 x17_4 x142_5).f0))) (fun _ hk => hk.2) (.int .i64 ((rd_T36 x17_4 x142_5).f1))) (fun _ hk => hk.2) (.int .i64 ((rd_T36 x17_4 x142_5).f2))) (fun _ h_ => h_.1))) hb); replace HO_209002 := Aside0.mk (Kd.R_below (by (with_reducible repeat (first | apply Kd.R_alloc | apply Kd.R_drewN | apply Kd.R_drew)); exact (Kd.R_mono (Kd.R_far (p := ⟨gb220, 2, none⟩) (Kd.R_far (p := ⟨gb220, 1, none⟩) (Kd.R_far (p := ⟨gb220, 0, none⟩) (Kd.R_types HO_209002.out BK220.out (by decide)) (fun _ hk => hk.2) (.int .i64 ((rd_T36 x17_4 x142_5).f0))) (fun _ hk => hk.2) (.int .i64 ((rd_T36 x17_4 x142_5).f1))) (fun _ hk => hk.2) (.int .i64 ((rd_T36 x17_4 x142_5).f2))) (fun _ h_ => h_.1))) hb); replace BK204 := Aside0.mk (blk_below (g := gb204) (o := .cells #[.int .i64 a0_0, .int .i64 a0_1, .slice (some ad207) l0_2.length c0_2] 24 (0, 0)) (by (with_reducible repeat (first | refine blk_drewN ?_ _ | refine blk_drew ?_ | refine blk_alloc ?_ _)); refine blk_far ?_ NB204_220.out _; (with_reducible repeat (first | refine blk_drewN ?_ _ | refine blk_drew ?_ | refine blk_alloc ?_ _)); refine blk_far ?_ NB204_220.out _; (with_reducible repeat (first | refine blk_drewN ?_ _ | refine blk_drew ?_ | refine blk_alloc ?_ _)); refine blk_far ?_ NB204_220.out _; (with_reducible repeat (first | refine blk_drewN ?_ _ | refine blk_drew ?_ | refine blk_alloc ?_ _)); exact BK204.out) hb); replace BK205 := Aside0.mk (blk_below (g := gb205) (o := .cells #[.int .i64 x206000_5, .int .i64 x206001_5, .slice none 0 0] 24 (0, 0)) (by (with_reducible repeat (first | refine blk_drewN ?_ _ | refine blk_drew ?_ | refine blk_alloc ?_ _)); refine blk_far ?_ NB205_220.out _; (with_reducible repeat (first | refine blk_drewN ?_ _ | refine blk_drew ?_ | refine blk_alloc ?_ _)); refine blk_far ?_ NB205_220.out _; (with_reducible repeat (first | refine blk_drewN ?_ _ | refine blk_drew ?_ | refine blk_alloc ?_ _)); refine blk_far ?_ NB205_220.out _; (with_reducible repeat (first | refine blk_drewN ?_ _ | refine blk_drew ?_ | refine blk_alloc ?_ _)); exact BK205.out) hb); replace BK208 := Aside0.mk (blk_below (g := gb208) (o := .cells #[.int .i64 a0_0, .int .i64 a0_1, u209002] 24 (0, 0)) (by (with_reducible repeat (first | refine blk_drewN ?_ _ | refine blk_drew ?_ | refine blk_alloc ?_ _)); refine blk_far ?_ NB208_220.out _; (with_reducible repeat (first | refine blk_drewN ?_ _ | refine blk_drew ?_ | refine blk_alloc ?_ _)); refine blk_far ?_ NB208_220.out _; (with_reducible repeat (first | refine blk_drewN ?_ _ | refine blk_drew ?_ | refine blk_alloc ?_ _)); refine blk_far ?_ NB208_220.out _; (with_reducible repeat (first | refine blk_drewN ?_ _ | refine blk_drew ?_ | refine blk_alloc ?_ _)); exact BK208.out) hb); replace BK220 := Aside0.mk (blk_below (g := gb220) (o := .cells #[.int .i64 ((rd_T36 x17_4 x142_5).f0), .int .i64 ((rd_T36 x17_4 x142_5).f1), .int .i64 ((rd_T36 x17_4 x142_5).f2)] 36 (0, 0)) (by (with_reducible repeat (first | refine blk_drewN ?_ _ | refine blk_drew ?_ | refine blk_alloc ?_ _)); refine blk_put (cs := #[.int .i64 ((rd_T36 x17_4 x142_5).f0), .int .i64 ((rd_T36 x17_4 x142_5).f1), .int .i64 0]) ?_ 2 _ rfl; (with_reducible repeat (first | refine blk_drewN ?_ _ | refine blk_drew ?_ | refine blk_alloc ?_ _)); refine blk_put (cs := #[.int .i64 ((rd_T36 x17_4 x142_5).f0), .int .i64 0, .int .i64 0]) ?_ 1 _ rfl; (with_reducible repeat (first | refine blk_drewN ?_ _ | refine blk_drew ?_ | refine blk_alloc ?_ _)); refine blk_put (cs := #[.int .i64 0, .int .i64 0, .int .i64 0]) ?_ 0 _ rfl; (with_reducible repeat (first | refine blk_drewN ?_ _ | refine blk_drew ?_ | refine blk_alloc ?_ _)); exact BK220.out) hb); replace HB := Aside0.mk (below_step (dL4_ HB GE204 GE205 GE208 GE220) hb)))
                     go_roundg k5
                     case measure => have := HJ7.out; have := HJ28.out; have := HJ32.out; have := HK4.out; have := HK5.out; omega
                     case rel => exact ⟨(wrap64 (x142_5 + 1)), (x206000_5), (x206001_5), tS_, H', ⟨by have := HJ7.out; have := HJ28.out; have := HJ32.out; have := HK4.out; have := HK5.out; omega⟩, ⟨by (with_reducible repeat (first | apply Kd.R_alloc | apply Kd.R_drewN | apply Kd.R_drew)); exact Kd.R_mono HO_17.out (fun _ hk => trivial)⟩, ⟨by (with_reducible repeat (first | apply Kd.R_alloc | apply Kd.R_drewN | apply Kd.R_drew)); exact Kd.R_mono HO_140.out (fun _ hk => trivial)⟩, ⟨dR_ HO_209002⟩, ⟨dB_ BK204⟩, ⟨dB_ BK205⟩, ⟨dB_ BK208⟩, ⟨dL4_ HB GE204 GE205 GE208 GE220⟩⟩
                   ·rw [if_neg c78] at H
                    exact absurd H (by simp)
                  ·rw [if_neg c77] at H
                   exact absurd H (by simp)
                 ·rw [if_neg c76] at H
                  have c76b0 : decide (x142_5 < (x17_4.length : Int)) = false := decide_eq_false c76
                  clear c76
                  simp only [Option.some.injEq, Prod.mk.injEq] at H
                  obtain ⟨rfl, rfl, rfl, rfl, rfl, rfl⟩ := H
                  have hnb101 := NB208_204.out
                  have hnc101 := NB204_208.out
                  have hnb102 := NB208_205.out
                  have hnc102 := NB205_208.out
                  obtain ⟨hcz103_0, hcz103_1, hcz103_2, hfz103_0, hfz103_1, hfz103_2⟩ := cs3_ BK208.out
                  have hnb104 := NB205_204.out
                  have hnc104 := NB204_205.out
                  obtain ⟨hcz105_0, hcz105_1, hcz105_2, hfz105_0, hfz105_1, hfz105_2⟩ := cs3_ BK205.out
                  obtain ⟨Ao106, co106, eo106⟩ := Kd.R_slice HO_209002.out
                  subst eo106
                  go_wp2
                  repeat (go_quiet (fail); try go_wp2)
                  refine bodyPost_ret (results_list (rs := [.cell 10 24, .tmp 11, .tmp 12, .tmp 13]) rfl (by simp) (.cell gb205 24 #[.int .i64 a0_0, .int .i64 a0_1, .slice Ao106 x209002_4.length co106] (0, 0) _ rfl (by (with_reducible repeat (first | refine blk_drewN ?_ _ | refine blk_drew ?_ | refine blk_alloc ?_ _)); refine blk_put (cs := #[.int .i64 a0_0, .int .i64 a0_1, .slice none 0 0]) ?_ 2 _ rfl; (with_reducible repeat (first | refine blk_drewN ?_ _ | refine blk_drew ?_ | refine blk_alloc ?_ _)); refine blk_put (cs := #[.int .i64 a0_0, .int .i64 x206001_5, .slice none 0 0]) ?_ 1 _ rfl; (with_reducible repeat (first | refine blk_drewN ?_ _ | refine blk_drew ?_ | refine blk_alloc ?_ _)); refine blk_put (cs := #[.int .i64 x206000_5, .int .i64 x206001_5, .slice none 0 0]) ?_ 0 _ rfl; (with_reducible repeat (first | refine blk_drewN ?_ _ | refine blk_drew ?_ | refine blk_alloc ?_ _)); exact BK205.out) Try.underlying24 rfl (by kernel_rfl) (.tmp (.tmp (.tmp .nil))))) rfl ?_
                  exact ⟨_, _, by first | rfl | (simp [errW_none, errW_some] <;> rfl) | (simp only [← hji26]; first | rfl | (simp [errW_none, errW_some] <;> rfl)) | (simp [*, errW_none, errW_some] <;> rfl), by (with_reducible repeat (first | apply Kd.R_alloc | apply Kd.R_drewN | apply Kd.R_drew)); exact Kd.R_mono (Kd.R_far (p := ⟨gb205, 2, none⟩) (Kd.R_far (p := ⟨gb205, 1, none⟩) (Kd.R_far (p := ⟨gb205, 0, none⟩) (Kd.R_types HO_209002.out BK205.out (by decide)) (fun _ hk => hk.2) (.int .i64 a0_0)) (fun _ hk => hk.2) (.int .i64 a0_1)) (fun _ hk => hk.2) (.slice Ao106 x209002_4.length co106)) (fun _ hk => trivial), by (with_reducible repeat (first | apply Kd.R_alloc | apply Kd.R_drewN | apply Kd.R_drew)); exact Kd.R_mono (Kd.R_far (p := ⟨gb205, 2, none⟩) (Kd.R_far (p := ⟨gb205, 1, none⟩) (Kd.R_far (p := ⟨gb205, 0, none⟩) (Kd.R_types HO_17.out BK205.out (by decide)) (fun _ hk => hk.2) (.int .i64 a0_0)) (fun _ hk => hk.2) (.int .i64 a0_1)) (fun _ hk => hk.2) (.slice Ao106 x209002_4.length co106)) (fun _ hk => trivial), dL3_ HB GE204 GE205 GE208⟩
      ·rw [if_neg c28] at H
       exact absurd H (by simp)
     ·rw [if_neg c27] at H
      exact absurd H (by simp)
 ·rw [if_neg c7] at H
  have c7b0 : (t206 == 0) = false := beq_eq_false_iff_ne.mpr c7
  have c7b1 : (t206 != 0) = true := bne_iff_ne.mpr c7
  simp only [Option.some.injEq, Prod.mk.injEq] at H
  obtain ⟨rfl, rfl, rfl, rfl, rfl, rfl⟩ := H
  go_enter Try.func20, Try.ntmps20
  go_wp2_with (first | ((with_reducible refine gate_dst (N := 5) rfl ?_); refine box_event ?hg (N := 5) ?hd (cs := #[.int .i64 a0_0, .int .i64 a0_1, .slice A0_2 l0_2.length c0_2]) (t := 24) ?hr ?_; (case hd => rfl); (case hg => rfl); (case hr => first | (go_simp; done) | (go_simp; rfl)); intro gb204 hg w107 hbox hb; have BK204 := Aside0.mk (hbox); have GW204 := Aside0.mk ((dS_ hg (dL_ HB) : w.heap.size ≤ gb204)); have GE204 := Aside0.mk ((dS_ hg (dL_ HB) : w.heap.size ≤ gb204)); replace HB := Aside0.mk (below_step (dL_ HB) hb); clear hb hbox hg) | ((with_reducible refine gate_dst (N := 10) rfl ?_); refine box_event ?hg (N := 10) ?hd (cs := #[.int .i64 0, .int .i64 0, .slice none 0 0]) (t := 24) ?hr ?_; (case hd => rfl); (case hg => rfl); (case hr => first | (go_simp; done) | (go_simp; rfl)); intro gb205 hg w108 hbox hb; have BK205 := Aside0.mk (hbox); have GW205 := Aside0.mk ((dS_ hg (dL1_ HB GE204) : w.heap.size ≤ gb205)); have GE205 := Aside0.mk ((dS_ hg (dL1_ HB GE204) : w.heap.size ≤ gb205)); replace HB := Aside0.mk (below_step (dL1_ HB GE204) hb); have NB204_205 := Aside0.mk ((by rw [hg]; exact Nat.ne_of_lt (blk_lt (dB_ BK204)) : gb204 ≠ gb205)); have NB205_204 := Aside0.mk ((by rw [hg]; exact Nat.ne_of_gt (blk_lt (dB_ BK204)) : gb205 ≠ gb204)); replace BK204 := Aside0.mk (blk_below (g := gb204) (o := .cells #[.int .i64 a0_0, .int .i64 a0_1, .slice A0_2 l0_2.length c0_2] 24 (0, 0)) (dB_ BK204) hb); clear hb hbox hg; have hnb109 := NB204_205.out; have hnc109 := NB205_204.out; obtain ⟨hcz110_0, hcz110_1, hcz110_2, hfz110_0, hfz110_1, hfz110_2⟩ := cs3_ BK204.out) | (go_at_call 18; (with_reducible refine (hinterlandref02_Validate.calls k a0_0 a0_1 _ _ l0_2 t206 _ ?side1 ?side2 A6.out).mono ?_); (case side1 => exact dC_ HR0_2 HB); (case side2 => exact HC0_2.out); rintro e w111 ⟨rfl, hb⟩; replace BK204 := Aside0.mk (blk_below (g := gb204) (o := .cells #[.int .i64 a0_0, .int .i64 a0_1, .slice A0_2 l0_2.length c0_2] 24 (0, 0)) (dB_ BK204) hb); replace BK205 := Aside0.mk (blk_below (g := gb205) (o := .cells #[.int .i64 0, .int .i64 0, .slice none 0 0] 24 (0, 0)) (dB_ BK205) hb); replace HB := Aside0.mk (below_step (dL2_ HB GE204 GE205) hb); obtain ⟨hcz112_0, hcz112_1, hcz112_2, hfz112_0, hfz112_1, hfz112_2⟩ := cs3_ BK205.out))
  refine bodyPost_ret (results_list (rs := [.cell 10 24, .tmp 11, .tmp 12, .tmp 13]) rfl (by simp) (.cell gb205 24 #[.int .i64 0, .int .i64 0, .slice none 0 0] (0, 0) _ rfl (by (with_reducible repeat (first | refine blk_drewN ?_ _ | refine blk_drew ?_ | refine blk_alloc ?_ _)); refine blk_put (cs := #[.int .i64 0, .int .i64 0, .slice none 0 0]) ?_ 2 _ rfl; (with_reducible repeat (first | refine blk_drewN ?_ _ | refine blk_drew ?_ | refine blk_alloc ?_ _)); refine blk_put (cs := #[.int .i64 0, .int .i64 0, .slice none 0 0]) ?_ 1 _ rfl; (with_reducible repeat (first | refine blk_drewN ?_ _ | refine blk_drew ?_ | refine blk_alloc ?_ _)); refine blk_put (cs := #[.int .i64 0, .int .i64 0, .slice none 0 0]) ?_ 0 _ rfl; (with_reducible repeat (first | refine blk_drewN ?_ _ | refine blk_drew ?_ | refine blk_alloc ?_ _)); exact BK205.out) Try.underlying24 rfl (by kernel_rfl) (.tmp (.tmp (.tmp .nil))))) rfl ?_
  exact ⟨_, _, tE_, by first | exact Kd.R_nil _ _ _ _ _ | exact Kd.N_nil _ _ _ _ _ | exact Kd.V_nil _ _ _ _ _ | exact Kd.Q_nil _ _ _ _ _ | exact Kd.S_nil _ _ _ _ _, by first | exact Kd.R_nil _ _ _ _ _ | exact Kd.N_nil _ _ _ _ _ | exact Kd.V_nil _ _ _ _ _ | exact Kd.Q_nil _ _ _ _ _ | exact Kd.S_nil _ _ _ _ _, dL2_ HB GE204 GE205⟩

end Go.Proofs.Ytchflcnegpnkkaa.Q
