-- PRINTED by print.py (a twelfth state) out of the translation. Not trusted: Lean checks it.
import Derived.Test.YtnkgelnkoljgdaaPrs
import Derived.Test.YtnkgelnkoljgdaaQ0
import Derived.Test.YtnkgelnkoljgdaaQ25
import Derived.Test.YtnkgelnkoljgdaaQ26
import Derived.Test.YtnkgelnkoljgdaaQ27
namespace Go.Proofs.Ytnkgelnkoljgdaa.Q
open Go.RowKit Go.Proofs.YtnkgelnkoljgdaaPrs Go.Proofs.YtnkgelnkoljgdaaOwn Go.Proofs.YtnkgelnkoljgdaaW.PrintWords Go.Proofs.YtnkgelnkoljgdaaW.PrintLast Go.Proofs.YtnkgelnkoljgdaaW.PrintMore
open List renaming setIfInBounds_toArray → sI_, set_cons_zero → s0_, set_cons_succ → sS_
attribute [local go_sem] max2_int min2_int max_two min_two max_three min_three max_four min_four   -- for this text's walks alone
set_option linter.unusedVariables false
set_option linter.unusedSimpArgs false

/-! ### hinterlandref10_Bring: function 21 -/
mutual
def hinterlandref10_Bring.j0 : Nat → List (S39) → Int → Bool → Int → Int → Int → List Int → List Int → List Int → List Int → Int → Int → Bool → Int → Int → Int → List Int → List Int → List Int → List Int → Int → Int → Bool → Option (Int × Int × Int × List Int × List Int × List Int × List Int × Int × Int × Bool × Int × Int)
  | 0, _, _, _, _, _, _, _, _, _, _, _, _, _, _, _, _, _, _, _, _, _, _, _ => none
  | k + 1, x0, x3, x39, x376000, x376001, x376002, x376003, x376004, x376005, x376006, x376007, x376008, x376009, x397000, x397001, x397002, x397003, x397004, x397005, x397006, x397007, x397008, x397009 => if x39 = true then (some (x397000, x397001, x397002, x397003, x397004, x397005, x397006, x397007, x397008, x397009, 0, 0)) else (if 0 ≤ x376000 then (if x376000 < (x0.length : Int) then (hinterlandref10_Bring.l0 k x3 ((rd_T39 x0 x376000).f2) (((rd_T39 x0 x376000).f2).length : Int) 0 x376000 x376001 x376002 x376003 x376004 x376005 x376006 x376007 x376008 x376009 x397000 x397001 x397002 x397003 x397004 x397005 x397006 x397007 x397008 x397009) else (none)) else (none))
def hinterlandref10_Bring.l0 : Nat → Int → List (S41) → Int → Int → Int → Int → Int → List Int → List Int → List Int → List Int → Int → Int → Bool → Int → Int → Int → List Int → List Int → List Int → List Int → Int → Int → Bool → Option (Int × Int × Int × List Int × List Int × List Int × List Int × Int × Int × Bool × Int × Int)
  | 0, _, _, _, _, _, _, _, _, _, _, _, _, _, _, _, _, _, _, _, _, _, _, _, _ => none
  | k + 1, x3, x46, x47, x48, x376000, x376001, x376002, x376003, x376004, x376005, x376006, x376007, x376008, x376009, x397000, x397001, x397002, x397003, x397004, x397005, x397006, x397007, x397008, x397009 => if x48 < x47 then (if 0 ≤ x48 then (if x48 < (x46.length : Int) then (if x48 < (x376004.length : Int) then (if x48 < (x397004.length : Int) then (if x48 < (x376003.length : Int) then (if x48 < (x397003.length : Int) then (if x48 < (x376005.length : Int) then (if x48 < (x397005.length : Int) then (hinterlandref10_Bring.l0 k x3 x46 x47 (wrap64 (x48 + 1)) x376000 x376001 x376002 x376003 x376004 x376005 x376006 x376007 x376008 x376009 x397000 x397001 x397002 (x397003.set (x48 : Int).toNat (mn (wrap64 ((rd x376003 x48) + (wrap64 (Int.tdiv (wrap64 ((rd x376004 x48) + (wrap64 (x3 * ((rd_T41 x46 x48).f1))))) 8)))) 1000000)) (x397004.set (x48 : Int).toNat (Int.tmod (wrap64 ((rd x376004 x48) + (wrap64 (x3 * ((rd_T41 x46 x48).f1))))) 8)) (x397005.set (x48 : Int).toNat (mn (wrap64 ((rd x376005 x48) + (wrap64 (Int.tdiv (wrap64 ((rd x376004 x48) + (wrap64 (x3 * ((rd_T41 x46 x48).f1))))) 8)))) 1000000)) x397006 x397007 x397008 x397009) else (none)) else (none)) else (none)) else (none)) else (none)) else (none)) else (none)) else (none)) else (some (x397000, x397001, x397002, x397003, x397004, x397005, x397006, mn (wrap64 (x376007 + x3)) 1000000, x397008, x397009, x3, 0))
end
def hinterlandref10_Bring.f (k : Nat) (l0 : List (S39)) (a1_0 : Int) (a1_1 : Int) (a1_2 : Int) (l1_3 : List Int) (l1_4 : List Int) (l1_5 : List Int) (l1_6 : List Int) (a1_7 : Int) (a1_8 : Int) (a1_9 : Bool) (a2 : Int) (a3 : Int) : Option (Int × Int × Int × List Int × List Int × List Int × List Int × Int × Int × Bool × Int × Int) := (hinterlandref10_asked.f k l0 a1_0 a1_1 a1_2 l1_3 l1_4 l1_5 l1_6 a1_7 a1_8 a1_9 a2 a3).bind fun t377 => (if t377 = 0 then ((hinterlandref10_again.f a1_0 a1_1 a1_2 l1_3 l1_4 l1_5 l1_6 a1_7 a1_8 a1_9).bind fun bt378 => (if a1_9 = true then (if 0 ≤ a1_0 then (if a1_0 < (l0.length : Int) then ((hinterlandref10_Takes.f k ((rd_T39 l0 a1_0).f0) ((rd_T39 l0 a1_0).f1) ((rd_T39 l0 a1_0).f2) a2).bind fun t398 => (hinterlandref10_Bring.j0 k l0 a3 (!t398) a1_0 a1_1 a1_2 l1_3 l1_4 l1_5 l1_6 a1_7 a1_8 a1_9 bt378.1 bt378.2.1 bt378.2.2.1 bt378.2.2.2.1 bt378.2.2.2.2.1 bt378.2.2.2.2.2.1 bt378.2.2.2.2.2.2.1 bt378.2.2.2.2.2.2.2.1 bt378.2.2.2.2.2.2.2.2.1 bt378.2.2.2.2.2.2.2.2.2)) else (none)) else (none)) else (hinterlandref10_Bring.j0 k l0 a3 true a1_0 a1_1 a1_2 l1_3 l1_4 l1_5 l1_6 a1_7 a1_8 a1_9 bt378.1 bt378.2.1 bt378.2.2.1 bt378.2.2.2.1 bt378.2.2.2.2.1 bt378.2.2.2.2.2.1 bt378.2.2.2.2.2.2.1 bt378.2.2.2.2.2.2.2.1 bt378.2.2.2.2.2.2.2.2.1 bt378.2.2.2.2.2.2.2.2.2))) else (some (0, 0, 0, ([] : List Int), ([] : List Int), ([] : List Int), ([] : List Int), 0, 0, false, 0, t377)))
theorem hinterlandref10_Bring.mono_l : ∀ k, (∀ y0 y1 y2 y3 y4 y5 y6 y7 y8 y9 y10 y11 y12 y13 y14 y15 y16 y17 y18 y19 y20 y21 y22, LeO (hinterlandref10_Bring.j0 k y0 y1 y2 y3 y4 y5 y6 y7 y8 y9 y10 y11 y12 y13 y14 y15 y16 y17 y18 y19 y20 y21 y22) (hinterlandref10_Bring.j0 (k + 1) y0 y1 y2 y3 y4 y5 y6 y7 y8 y9 y10 y11 y12 y13 y14 y15 y16 y17 y18 y19 y20 y21 y22)) ∧ (∀ y0 y1 y2 y3 y4 y5 y6 y7 y8 y9 y10 y11 y12 y13 y14 y15 y16 y17 y18 y19 y20 y21 y22 y23, LeO (hinterlandref10_Bring.l0 k y0 y1 y2 y3 y4 y5 y6 y7 y8 y9 y10 y11 y12 y13 y14 y15 y16 y17 y18 y19 y20 y21 y22 y23) (hinterlandref10_Bring.l0 (k + 1) y0 y1 y2 y3 y4 y5 y6 y7 y8 y9 y10 y11 y12 y13 y14 y15 y16 y17 y18 y19 y20 y21 y22 y23))
  | 0 => ⟨fun _ _ _ _ _ _ _ _ _ _ _ _ _ _ _ _ _ _ _ _ _ _ _ r h => by simp [hinterlandref10_Bring.j0] at h, fun _ _ _ _ _ _ _ _ _ _ _ _ _ _ _ _ _ _ _ _ _ _ _ _ r h => by simp [hinterlandref10_Bring.l0] at h⟩
  | k + 1 => by
    obtain ⟨ih0, ih1⟩ := hinterlandref10_Bring.mono_l k
    refine ⟨?_, ?_⟩
    · intro y0 y1 y2 y3 y4 y5 y6 y7 y8 y9 y10 y11 y12 y13 y14 y15 y16 y17 y18 y19 y20 y21 y22
      unfold hinterlandref10_Bring.j0
      repeat' first
      | (with_reducible first | exact ih0 _ _ _ _ _ _ _ _ _ _ _ _ _ _ _ _ _ _ _ _ _ _ _ | exact ih1 _ _ _ _ _ _ _ _ _ _ _ _ _ _ _ _ _ _ _ _ _ _ _ _ | exact hinterlandref10_Takes.mono _ _ _ _ _ | exact hinterlandref10_asked.mono _ _ _ _ _ _ _ _ _ _ _ _ _ _ | exact LeO.refl _ | exact LeO.none _ | refine LeO.ite ?_ ?_ | refine LeO.bind ?_ (fun _ => ?_))
      | exact ih0 _ _ _ _ _ _ _ _ _ _ _ _ _ _ _ _ _ _ _ _ _ _ _
      | exact ih1 _ _ _ _ _ _ _ _ _ _ _ _ _ _ _ _ _ _ _ _ _ _ _ _
      | exact hinterlandref10_Takes.mono _ _ _ _ _
      | exact hinterlandref10_asked.mono _ _ _ _ _ _ _ _ _ _ _ _ _ _
      | exact LeO.none _
      | refine LeO.ite ?_ ?_
      | refine LeO.bind ?_ (fun _ => ?_)
    · intro y0 y1 y2 y3 y4 y5 y6 y7 y8 y9 y10 y11 y12 y13 y14 y15 y16 y17 y18 y19 y20 y21 y22 y23
      unfold hinterlandref10_Bring.l0
      repeat' first
      | (with_reducible first | exact ih0 _ _ _ _ _ _ _ _ _ _ _ _ _ _ _ _ _ _ _ _ _ _ _ | exact ih1 _ _ _ _ _ _ _ _ _ _ _ _ _ _ _ _ _ _ _ _ _ _ _ _ | exact hinterlandref10_Takes.mono _ _ _ _ _ | exact hinterlandref10_asked.mono _ _ _ _ _ _ _ _ _ _ _ _ _ _ | exact LeO.refl _ | exact LeO.none _ | refine LeO.ite ?_ ?_ | refine LeO.bind ?_ (fun _ => ?_))
      | exact ih0 _ _ _ _ _ _ _ _ _ _ _ _ _ _ _ _ _ _ _ _ _ _ _
      | exact ih1 _ _ _ _ _ _ _ _ _ _ _ _ _ _ _ _ _ _ _ _ _ _ _ _
      | exact hinterlandref10_Takes.mono _ _ _ _ _
      | exact hinterlandref10_asked.mono _ _ _ _ _ _ _ _ _ _ _ _ _ _
      | exact LeO.none _
      | refine LeO.ite ?_ ?_
      | refine LeO.bind ?_ (fun _ => ?_)
theorem hinterlandref10_Bring.mono : ∀ a0 a1 a2 a3 a4 a5 a6 a7 a8 a9 a10 a11 a12 k, LeO (hinterlandref10_Bring.f k a0 a1 a2 a3 a4 a5 a6 a7 a8 a9 a10 a11 a12) (hinterlandref10_Bring.f (k + 1) a0 a1 a2 a3 a4 a5 a6 a7 a8 a9 a10 a11 a12) := by
  intro a0 a1 a2 a3 a4 a5 a6 a7 a8 a9 a10 a11 a12 k
  obtain ⟨ih0, ih1⟩ := hinterlandref10_Bring.mono_l k
  unfold hinterlandref10_Bring.f
  repeat' first
      | (with_reducible first | exact ih0 _ _ _ _ _ _ _ _ _ _ _ _ _ _ _ _ _ _ _ _ _ _ _ | exact ih1 _ _ _ _ _ _ _ _ _ _ _ _ _ _ _ _ _ _ _ _ _ _ _ _ | exact hinterlandref10_Takes.mono _ _ _ _ _ | exact hinterlandref10_asked.mono _ _ _ _ _ _ _ _ _ _ _ _ _ _ | exact LeO.refl _ | exact LeO.none _ | refine LeO.ite ?_ ?_ | refine LeO.bind ?_ (fun _ => ?_))
      | exact ih0 _ _ _ _ _ _ _ _ _ _ _ _ _ _ _ _ _ _ _ _ _ _ _
      | exact ih1 _ _ _ _ _ _ _ _ _ _ _ _ _ _ _ _ _ _ _ _ _ _ _ _
      | exact hinterlandref10_Takes.mono _ _ _ _ _
      | exact hinterlandref10_asked.mono _ _ _ _ _ _ _ _ _ _ _ _ _ _
      | exact LeO.none _
      | refine LeO.ite ?_ ?_
      | refine LeO.bind ?_ (fun _ => ?_)
def hinterlandref10_Bring.T10 : Bool × List (List Nat × List Nat) := (true, [([], []), ([0], [0]), ([], []), ([1, 2], [1, 2]), ([3], [3]), ([], []), ([], []), ([6], [6]), ([5, 7], [5, 7]), ([4, 8], [4, 8]), ([9, 0, 1, 2, 3, 4, 5, 6, 7, 8, 9], [9])])
def hinterlandref10_Bring.B10 : List Nat := [0, 1, 0, 7, 15, 0, 0, 64, 224, 511, 1023]
theorem hinterlandref10_Bring.tab10 : rtab .any (opsOf Try.f21 10) = hinterlandref10_Bring.T10 := by kernel_rfl
theorem hinterlandref10_Bring.bits10 : waitsOk hinterlandref10_Bring.T10.2 hinterlandref10_Bring.B10 = true := by kernel_rfl
def hinterlandref10_Bring.T12 : Bool × List (List Nat × List Nat) := (true, [([], []), ([0], [0]), ([], []), ([], []), ([3], [3]), ([], []), ([4, 5], [4, 5]), ([6], [6]), ([], []), ([8], [8]), ([7, 9], [7, 9]), ([10], [10]), ([1, 2, 0, 1, 2, 3, 4, 5, 6, 7, 8, 9, 10, 11], [1, 2]), ([12, 11, 0, 1, 2, 3, 4, 5, 6, 7, 8, 9, 10, 11], [11, 12])])
def hinterlandref10_Bring.B12 : List Nat := [0, 1, 0, 0, 8, 0, 56, 120, 0, 256, 1016, 2040, 4095, 8191]
theorem hinterlandref10_Bring.tab12 : rtab .any (opsOf Try.f21 12) = hinterlandref10_Bring.T12 := by kernel_rfl
theorem hinterlandref10_Bring.bits12 : waitsOk hinterlandref10_Bring.T12.2 hinterlandref10_Bring.B12 = true := by kernel_rfl
def hinterlandref10_Bring.T13 : Bool × List (List Nat × List Nat) := (true, [([], []), ([0], [0]), ([], []), ([], []), ([3], [3]), ([], []), ([4, 5], [4, 5]), ([6], [6]), ([], []), ([8], [8]), ([7, 9], [7, 9]), ([10], [10]), ([1, 2, 0, 1, 2, 3, 4, 5, 6, 7, 8, 9, 10, 11], [1, 2]), ([12, 11, 0, 1, 2, 3, 4, 5, 6, 7, 8, 9, 10, 11], [11, 12])])
def hinterlandref10_Bring.B13 : List Nat := [0, 1, 0, 0, 8, 0, 56, 120, 0, 256, 1016, 2040, 4095, 8191]
theorem hinterlandref10_Bring.tab13 : rtab .any (opsOf Try.f21 13) = hinterlandref10_Bring.T13 := by kernel_rfl
theorem hinterlandref10_Bring.bits13 : waitsOk hinterlandref10_Bring.T13.2 hinterlandref10_Bring.B13 = true := by kernel_rfl
set_option maxHeartbeats 8000000 in
set_option maxRecDepth 100000 in
theorem hinterlandref10_Bring.calls (k : Nat) (A0 : Option Addr) (c0 : Nat) (l0 : List (S39)) (a1_0 : Int) (a1_1 : Int) (a1_2 : Int) (A1_3 : Option Addr) (c1_3 : Nat) (l1_3 : List Int) (A1_4 : Option Addr) (c1_4 : Nat) (l1_4 : List Int) (A1_5 : Option Addr) (c1_5 : Nat) (l1_5 : List Int) (A1_6 : Option Addr) (c1_6 : Nat) (l1_6 : List Int) (a1_7 : Int) (a1_8 : Int) (a1_9 : Bool) (a2 : Int) (a3 : Int) (r1 : Int) (r2 : Int) (r3 : Int) (r4 : List Int) (r5 : List Int) (r6 : List Int) (r7 : List Int) (r8 : Int) (r9 : Int) (r10 : Bool) (r11 : Int) (r12 : Int) (w : World) (hr0 : Kd.C k39 w A0 l0.length l0) (hc0 : l0.length ≤ c0) (hr1_3 : Kd.C (Kd.int .i64) w A1_3 l1_3.length l1_3) (hc1_3 : l1_3.length ≤ c1_3) (hr1_4 : Kd.C (Kd.int .i64) w A1_4 l1_4.length l1_4) (hc1_4 : l1_4.length ≤ c1_4) (hr1_5 : Kd.C (Kd.int .i64) w A1_5 l1_5.length l1_5) (hc1_5 : l1_5.length ≤ c1_5) (hr1_6 : Kd.C (Kd.int .i64) w A1_6 l1_6.length l1_6) (hc1_6 : l1_6.length ≤ c1_6) (h : hinterlandref10_Bring.f k l0 a1_0 a1_1 a1_2 l1_3 l1_4 l1_5 l1_6 a1_7 a1_8 a1_9 a2 a3 = some (r1, r2, r3, r4, r5, r6, r7, r8, r9, r10, r11, r12)) :
    Calls Try.prog 21 #[.slice A0 l0.length c0, .agg #[.int .i64 a1_0, .int .i64 a1_1, .int .i64 a1_2, .slice A1_3 l1_3.length c1_3, .slice A1_4 l1_4.length c1_4, .slice A1_5 l1_5.length c1_5, .slice A1_6 l1_6.length c1_6, .int .i64 a1_7, .int .i64 a1_8, .bool a1_9], .int .i64 a2, .int .i64 a3] w fun e w' => ∃ v3_ v4_ v5_ v6_ : Value, e = .returned (.tuple #[.agg #[.int .i64 r1, .int .i64 r2, .int .i64 r3, v3_, v4_, v5_, v6_, .int .i64 r8, .int .i64 r9, .bool r10], .int .i64 r11, .int .i64 r12]) ∧ Kd.R (Kd.int .i64) 3 w' w.heap.size (fun k_ => some k_ ≠ (v4_ : Value).ownBlock ∧ some k_ ≠ (v5_ : Value).ownBlock ∧ some k_ ≠ (v6_ : Value).ownBlock) v3_ r4 ∧ Kd.R (Kd.int .i64) 3 w' w.heap.size (fun k_ => some k_ ≠ (v3_ : Value).ownBlock ∧ some k_ ≠ (v5_ : Value).ownBlock ∧ some k_ ≠ (v6_ : Value).ownBlock) v4_ r5 ∧ Kd.R (Kd.int .i64) 3 w' w.heap.size (fun k_ => some k_ ≠ (v3_ : Value).ownBlock ∧ some k_ ≠ (v4_ : Value).ownBlock ∧ some k_ ≠ (v6_ : Value).ownBlock) v5_ r6 ∧ Kd.R (Kd.int .i64) 3 w' w.heap.size (fun k_ => some k_ ≠ (v3_ : Value).ownBlock ∧ some k_ ≠ (v4_ : Value).ownBlock ∧ some k_ ≠ (v5_ : Value).ownBlock) v6_ r7 ∧ Below w.heap.size w w' := by
 have hu25 := Try.underlying25
 have hu39 := Try.underlying39
 have hu41 := Try.underlying41
 have HR0 := Aside0.mk hr0
 have HC0 := Aside0.mk hc0
 clear hr0 hc0
 have HR1_3 := Aside0.mk hr1_3
 have HC1_3 := Aside0.mk hc1_3
 clear hr1_3 hc1_3
 have HR1_4 := Aside0.mk hr1_4
 have HC1_4 := Aside0.mk hc1_4
 clear hr1_4 hc1_4
 have HR1_5 := Aside0.mk hr1_5
 have HC1_5 := Aside0.mk hc1_5
 clear hr1_5 hc1_5
 have HR1_6 := Aside0.mk hr1_6
 have HC1_6 := Aside0.mk hc1_6
 clear hr1_6 hc1_6
 have HB := Aside0.mk (Below.refl w.heap.size w)
 have H : ((hinterlandref10_asked.f k l0 a1_0 a1_1 a1_2 l1_3 l1_4 l1_5 l1_6 a1_7 a1_8 a1_9 a2 a3).bind fun t377 => (if t377 = 0 then ((hinterlandref10_again.f a1_0 a1_1 a1_2 l1_3 l1_4 l1_5 l1_6 a1_7 a1_8 a1_9).bind fun bt378 => (if a1_9 = true then (if 0 ≤ a1_0 then (if a1_0 < (l0.length : Int) then ((hinterlandref10_Takes.f k ((rd_T39 l0 a1_0).f0) ((rd_T39 l0 a1_0).f1) ((rd_T39 l0 a1_0).f2) a2).bind fun t398 => (hinterlandref10_Bring.j0 k l0 a3 (!t398) a1_0 a1_1 a1_2 l1_3 l1_4 l1_5 l1_6 a1_7 a1_8 a1_9 bt378.1 bt378.2.1 bt378.2.2.1 bt378.2.2.2.1 bt378.2.2.2.2.1 bt378.2.2.2.2.2.1 bt378.2.2.2.2.2.2.1 bt378.2.2.2.2.2.2.2.1 bt378.2.2.2.2.2.2.2.2.1 bt378.2.2.2.2.2.2.2.2.2)) else (none)) else (none)) else (hinterlandref10_Bring.j0 k l0 a3 true a1_0 a1_1 a1_2 l1_3 l1_4 l1_5 l1_6 a1_7 a1_8 a1_9 bt378.1 bt378.2.1 bt378.2.2.1 bt378.2.2.2.1 bt378.2.2.2.2.1 bt378.2.2.2.2.2.1 bt378.2.2.2.2.2.2.1 bt378.2.2.2.2.2.2.2.1 bt378.2.2.2.2.2.2.2.2.1 bt378.2.2.2.2.2.2.2.2.2))) else (some (0, 0, 0, ([] : List Int), ([] : List Int), ([] : List Int), ([] : List Int), 0, 0, false, 0, t377)))) = some (r1, r2, r3, r4, r5, r6, r7, r8, r9, r10, r11, r12) := h
 clear h
 replace H := Option.bind_eq_some_iff.mp H
 obtain ⟨t377, A50, H⟩ := H
 replace H : (if t377 = 0 then ((hinterlandref10_again.f a1_0 a1_1 a1_2 l1_3 l1_4 l1_5 l1_6 a1_7 a1_8 a1_9).bind fun bt378 => (if a1_9 = true then (if 0 ≤ a1_0 then (if a1_0 < (l0.length : Int) then ((hinterlandref10_Takes.f k ((rd_T39 l0 a1_0).f0) ((rd_T39 l0 a1_0).f1) ((rd_T39 l0 a1_0).f2) a2).bind fun t398 => (hinterlandref10_Bring.j0 k l0 a3 (!t398) a1_0 a1_1 a1_2 l1_3 l1_4 l1_5 l1_6 a1_7 a1_8 a1_9 bt378.1 bt378.2.1 bt378.2.2.1 bt378.2.2.2.1 bt378.2.2.2.2.1 bt378.2.2.2.2.2.1 bt378.2.2.2.2.2.2.1 bt378.2.2.2.2.2.2.2.1 bt378.2.2.2.2.2.2.2.2.1 bt378.2.2.2.2.2.2.2.2.2)) else (none)) else (none)) else (hinterlandref10_Bring.j0 k l0 a3 true a1_0 a1_1 a1_2 l1_3 l1_4 l1_5 l1_6 a1_7 a1_8 a1_9 bt378.1 bt378.2.1 bt378.2.2.1 bt378.2.2.2.1 bt378.2.2.2.2.1 bt378.2.2.2.2.2.1 bt378.2.2.2.2.2.2.1 bt378.2.2.2.2.2.2.2.1 bt378.2.2.2.2.2.2.2.2.1 bt378.2.2.2.2.2.2.2.2.2))) else (some (0, 0, 0, ([] : List Int), ([] : List Int), ([] : List Int), ([] : List Int), 0, 0, false, 0, t377))) = some (r1, r2, r3, r4, r5, r6, r7, r8, r9, r10, r11, r12) := H
 have A5 := Aside0.mk A50
 clear A50
 by_cases c6 : t377 = 0
 ·rw [if_pos c6] at H
  have c6b0 : (t377 == 0) = true := beq_iff_eq.mpr c6
  have c6b1 : (t377 != 0) = false := bne_eq_false_iff_eq.mpr c6
  clear c6
  replace H := Option.bind_eq_some_iff.mp H
  obtain ⟨⟨t378, t379, t380, t381, t384, t387, t390, t393, t394, t395⟩, A70, H⟩ := H
  replace H : (if a1_9 = true then (if 0 ≤ a1_0 then (if a1_0 < (l0.length : Int) then ((hinterlandref10_Takes.f k ((rd_T39 l0 a1_0).f0) ((rd_T39 l0 a1_0).f1) ((rd_T39 l0 a1_0).f2) a2).bind fun t398 => (hinterlandref10_Bring.j0 k l0 a3 (!t398) a1_0 a1_1 a1_2 l1_3 l1_4 l1_5 l1_6 a1_7 a1_8 a1_9 t378 t379 t380 t381 t384 t387 t390 t393 t394 t395)) else (none)) else (none)) else (hinterlandref10_Bring.j0 k l0 a3 true a1_0 a1_1 a1_2 l1_3 l1_4 l1_5 l1_6 a1_7 a1_8 a1_9 t378 t379 t380 t381 t384 t387 t390 t393 t394 t395)) = some (r1, r2, r3, r4, r5, r6, r7, r8, r9, r10, r11, r12) := H
  have A7 := Aside0.mk A70
  clear A70
  have HC8 := Aside0.mk H
  clear H
  go_enter Try.func21, Try.ntmps21
  go_upto_region 5 with (first | ((with_reducible refine gate_dst (N := 5) rfl ?_); refine box_event ?hg (N := 5) ?hd (cs := #[.int .i64 a1_0, .int .i64 a1_1, .int .i64 a1_2, .slice A1_3 l1_3.length c1_3, .slice A1_4 l1_4.length c1_4, .slice A1_5 l1_5.length c1_5, .slice A1_6 l1_6.length c1_6, .int .i64 a1_7, .int .i64 a1_8, .bool a1_9]) (t := 25) ?hr ?_; (case hd => rfl); (case hg => rfl); (case hr => first | (go_simp; done) | (go_simp; rfl)); intro gb375 hg w9 hbox hb; have BK375 := Aside0.mk (hbox); have GW375 := Aside0.mk ((dS_ hg (dL_ HB) : w.heap.size ≤ gb375)); have GE375 := Aside0.mk ((dS_ hg (dL_ HB) : w.heap.size ≤ gb375)); replace HB := Aside0.mk (below_step (dL_ HB) hb); clear hb hbox hg) | ((with_reducible refine gate_dst (N := 8) rfl ?_); refine box_event ?hg (N := 8) ?hd (cs := #[.int .i64 0, .int .i64 0, .int .i64 0, .slice none 0 0, .slice none 0 0, .slice none 0 0, .slice none 0 0, .int .i64 0, .int .i64 0, .bool false]) (t := 25) ?hr ?_; (case hd => rfl); (case hg => rfl); (case hr => first | (go_simp; done) | (go_simp; rfl)); intro gb376 hg w10 hbox hb; have BK376 := Aside0.mk (hbox); have GW376 := Aside0.mk ((dS_ hg (dL1_ HB GE375) : w.heap.size ≤ gb376)); have GE376 := Aside0.mk ((dS_ hg (dL1_ HB GE375) : w.heap.size ≤ gb376)); replace HB := Aside0.mk (below_step (dL1_ HB GE375) hb); have NB375_376 := Aside0.mk ((by rw [hg]; exact Nat.ne_of_lt (blk_lt (dB_ BK375)) : gb375 ≠ gb376)); have NB376_375 := Aside0.mk ((by rw [hg]; exact Nat.ne_of_gt (blk_lt (dB_ BK375)) : gb376 ≠ gb375)); replace BK375 := Aside0.mk (blk_below (g := gb375) (o := .cells #[.int .i64 a1_0, .int .i64 a1_1, .int .i64 a1_2, .slice A1_3 l1_3.length c1_3, .slice A1_4 l1_4.length c1_4, .slice A1_5 l1_5.length c1_5, .slice A1_6 l1_6.length c1_6, .int .i64 a1_7, .int .i64 a1_8, .bool a1_9] 25 (0, 0)) (dB_ BK375) hb); clear hb hbox hg; have hnb11 := NB375_376.out; have hnc11 := NB376_375.out; obtain ⟨hcz12_0, hcz12_1, hcz12_2, hcz12_3, hcz12_4, hcz12_5, hcz12_6, hcz12_7, hcz12_8, hcz12_9, hfz12_0, hfz12_1, hfz12_2, hfz12_3, hfz12_4, hfz12_5, hfz12_6, hfz12_7, hfz12_8, hfz12_9⟩ := cs10_ BK375.out) | ((with_reducible refine gate_callee (f := 40) rfl ?_); refine goesL_ (some 20) rfl rfl Try.func40 (by kernel_rfl) rfl #[.slice A0 l0.length c0, .agg #[.int .i64 a1_0, .int .i64 a1_1, .int .i64 a1_2, .slice A1_3 l1_3.length c1_3, .slice A1_4 l1_4.length c1_4, .slice A1_5 l1_5.length c1_5, .slice A1_6 l1_6.length c1_6, .int .i64 a1_7, .int .i64 a1_8, .bool a1_9], .int .i64 a2, .int .i64 a3] rfl tA_ ?_; (with_reducible refine (hinterlandref10_asked.calls k _ _ l0 a1_0 a1_1 a1_2 _ _ l1_3 _ _ l1_4 _ _ l1_5 _ _ l1_6 a1_7 a1_8 a1_9 a2 a3 t377 _ ?side1 ?side2 ?side3 ?side4 ?side5 ?side6 ?side7 ?side8 ?side9 ?side10 A5.out).mono ?_); (case side1 => exact dC_ HR0 HB); (case side2 => exact HC0.out); (case side3 => exact dC_ HR1_3 HB); (case side4 => exact HC1_3.out); (case side5 => exact dC_ HR1_4 HB); (case side6 => exact HC1_4.out); (case side7 => exact dC_ HR1_5 HB); (case side8 => exact HC1_5.out); (case side9 => exact dC_ HR1_6 HB); (case side10 => exact HC1_6.out); rintro e w13 ⟨rfl, hb⟩; refine ⟨_, rfl, ?_⟩; replace BK375 := Aside0.mk (blk_below (g := gb375) (o := .cells #[.int .i64 a1_0, .int .i64 a1_1, .int .i64 a1_2, .slice A1_3 l1_3.length c1_3, .slice A1_4 l1_4.length c1_4, .slice A1_5 l1_5.length c1_5, .slice A1_6 l1_6.length c1_6, .int .i64 a1_7, .int .i64 a1_8, .bool a1_9] 25 (0, 0)) (dB_ BK375) hb); replace BK376 := Aside0.mk (blk_below (g := gb376) (o := .cells #[.int .i64 0, .int .i64 0, .int .i64 0, .slice none 0 0, .slice none 0 0, .slice none 0 0, .slice none 0 0, .int .i64 0, .int .i64 0, .bool false] 25 (0, 0)) (dB_ BK376) hb); replace HB := Aside0.mk (below_step (dL2_ HB GE375 GE376) hb); obtain ⟨hcz14_0, hcz14_1, hcz14_2, hcz14_3, hcz14_4, hcz14_5, hcz14_6, hcz14_7, hcz14_8, hcz14_9, hfz14_0, hfz14_1, hfz14_2, hfz14_3, hfz14_4, hfz14_5, hfz14_6, hfz14_7, hfz14_8, hfz14_9⟩ := cs10_ BK375.out) | ((with_reducible refine gate_callee (f := 41) rfl ?_); refine goesL_ (some 26) rfl rfl Try.func41 (by kernel_rfl) rfl #[.agg #[.int .i64 a1_0, .int .i64 a1_1, .int .i64 a1_2, .slice A1_3 l1_3.length c1_3, .slice A1_4 l1_4.length c1_4, .slice A1_5 l1_5.length c1_5, .slice A1_6 l1_6.length c1_6, .int .i64 a1_7, .int .i64 a1_8, .bool a1_9]] rfl tA_ ?_; (with_reducible refine (hinterlandref10_again.calls a1_0 a1_1 a1_2 _ _ l1_3 _ _ l1_4 _ _ l1_5 _ _ l1_6 a1_7 a1_8 a1_9 t378 t379 t380 t381 t384 t387 t390 t393 t394 t395 _ ?side1 ?side2 ?side3 ?side4 ?side5 ?side6 ?side7 ?side8 A7.out).mono ?_); (case side1 => exact dC_ HR1_3 HB); (case side2 => exact HC1_3.out); (case side3 => exact dC_ HR1_4 HB); (case side4 => exact HC1_4.out); (case side5 => exact dC_ HR1_5 HB); (case side6 => exact HC1_5.out); (case side7 => exact dC_ HR1_6 HB); (case side8 => exact HC1_6.out); rintro e w15 ⟨v382, v385, v388, v391, rfl, ho0, ho1, ho2, ho3, hb⟩; refine ⟨_, rfl, ?_⟩; have HO383 := Aside0.mk (Kd.R_lower ho0 (below_size (dL2_ HB GE375 GE376))); have HO386 := Aside0.mk (Kd.R_lower ho1 (below_size (dL2_ HB GE375 GE376))); have HO389 := Aside0.mk (Kd.R_lower ho2 (below_size (dL2_ HB GE375 GE376))); have HO392 := Aside0.mk (Kd.R_lower ho3 (below_size (dL2_ HB GE375 GE376))); replace BK375 := Aside0.mk (blk_below (g := gb375) (o := .cells #[.int .i64 a1_0, .int .i64 a1_1, .int .i64 a1_2, .slice A1_3 l1_3.length c1_3, .slice A1_4 l1_4.length c1_4, .slice A1_5 l1_5.length c1_5, .slice A1_6 l1_6.length c1_6, .int .i64 a1_7, .int .i64 a1_8, .bool a1_9] 25 (0, 0)) (dB_ BK375) hb); replace BK376 := Aside0.mk (blk_below (g := gb376) (o := .cells #[.int .i64 0, .int .i64 0, .int .i64 0, .slice none 0 0, .slice none 0 0, .slice none 0 0, .slice none 0 0, .int .i64 0, .int .i64 0, .bool false] 25 (0, 0)) (dB_ BK376) hb); replace HB := Aside0.mk (below_step (dL2_ HB GE375 GE376) hb)) | ((with_reducible refine gate_dst (N := 12) rfl ?_); refine box_event ?hg (N := 12) ?hd (cs := #[.int .i64 0, .int .i64 0, .int .i64 0, .slice none 0 0, .slice none 0 0, .slice none 0 0, .slice none 0 0, .int .i64 0, .int .i64 0, .bool false]) (t := 25) ?hr ?_; (case hd => rfl); (case hg => rfl); (case hr => first | (go_simp; done) | (go_simp; rfl)); intro gb396 hg w16 hbox hb; replace HO383 := Aside0.mk (Kd.R_below (dR_ HO383) hb); replace HO386 := Aside0.mk (Kd.R_below (dR_ HO386) hb); replace HO389 := Aside0.mk (Kd.R_below (dR_ HO389) hb); replace HO392 := Aside0.mk (Kd.R_below (dR_ HO392) hb); have BK396 := Aside0.mk (hbox); have GW396 := Aside0.mk ((dS_ hg (dL2_ HB GE375 GE376) : w.heap.size ≤ gb396)); have GE396 := Aside0.mk ((dS_ hg (dL2_ HB GE375 GE376) : w.heap.size ≤ gb396)); replace HB := Aside0.mk (below_step (dL2_ HB GE375 GE376) hb); have NB375_396 := Aside0.mk ((by rw [hg]; exact Nat.ne_of_lt (blk_lt (dB_ BK375)) : gb375 ≠ gb396)); have NB396_375 := Aside0.mk ((by rw [hg]; exact Nat.ne_of_gt (blk_lt (dB_ BK375)) : gb396 ≠ gb375)); replace BK375 := Aside0.mk (blk_below (g := gb375) (o := .cells #[.int .i64 a1_0, .int .i64 a1_1, .int .i64 a1_2, .slice A1_3 l1_3.length c1_3, .slice A1_4 l1_4.length c1_4, .slice A1_5 l1_5.length c1_5, .slice A1_6 l1_6.length c1_6, .int .i64 a1_7, .int .i64 a1_8, .bool a1_9] 25 (0, 0)) (dB_ BK375) hb); have NB376_396 := Aside0.mk ((by rw [hg]; exact Nat.ne_of_lt (blk_lt (dB_ BK376)) : gb376 ≠ gb396)); have NB396_376 := Aside0.mk ((by rw [hg]; exact Nat.ne_of_gt (blk_lt (dB_ BK376)) : gb396 ≠ gb376)); replace BK376 := Aside0.mk (blk_below (g := gb376) (o := .cells #[.int .i64 0, .int .i64 0, .int .i64 0, .slice none 0 0, .slice none 0 0, .slice none 0 0, .slice none 0 0, .int .i64 0, .int .i64 0, .bool false] 25 (0, 0)) (dB_ BK376) hb); clear hb hbox hg; have hnb17 := NB396_375.out; have hnc17 := NB375_396.out; have hnb18 := NB396_376.out; have hnc18 := NB376_396.out; obtain ⟨hcz19_0, hcz19_1, hcz19_2, hcz19_3, hcz19_4, hcz19_5, hcz19_6, hcz19_7, hcz19_8, hcz19_9, hfz19_0, hfz19_1, hfz19_2, hfz19_3, hfz19_4, hfz19_5, hfz19_6, hfz19_7, hfz19_8, hfz19_9⟩ := cs10_ BK396.out; obtain ⟨Ao20, co20, eo20⟩ := Kd.R_slice HO383.out; subst eo20; obtain ⟨Ao21, co21, eo21⟩ := Kd.R_slice HO386.out; subst eo21; obtain ⟨Ao22, co22, eo22⟩ := Kd.R_slice HO389.out; subst eo22; obtain ⟨Ao23, co23, eo23⟩ := Kd.R_slice HO392.out; subst eo23))
  (try simp only [Act.put, sI_, s0_, sS_])
  go_cut [39] (fun v39 wc => ∃ (kq : Nat) (x39_7 : Bool), v39 = .bool x39_7 ∧ Aside0 (hinterlandref10_Bring.j0 kq l0 a3 x39_7 a1_0 a1_1 a1_2 l1_3 l1_4 l1_5 l1_6 a1_7 a1_8 a1_9 t378 t379 t380 t381 t384 t387 t390 t393 t394 t395 = some (r1, r2, r3, r4, r5, r6, r7, r8, r9, r10, r11, r12)) ∧ Aside0 (kq ≤ k) ∧ Aside0 (Kd.R (Kd.int .i64) 3 wc w.heap.size (fun k_ => some k_ ≠ ((.slice Ao21 t384.length co21) : Value).ownBlock ∧ some k_ ≠ ((.slice Ao22 t387.length co22) : Value).ownBlock ∧ some k_ ≠ ((.slice Ao23 t390.length co23) : Value).ownBlock) (.slice Ao20 t381.length co20) t381) ∧ Aside0 (Kd.R (Kd.int .i64) 3 wc w.heap.size (fun k_ => some k_ ≠ ((.slice Ao20 t381.length co20) : Value).ownBlock ∧ some k_ ≠ ((.slice Ao22 t387.length co22) : Value).ownBlock ∧ some k_ ≠ ((.slice Ao23 t390.length co23) : Value).ownBlock) (.slice Ao21 t384.length co21) t384) ∧ Aside0 (Kd.R (Kd.int .i64) 3 wc w.heap.size (fun k_ => some k_ ≠ ((.slice Ao20 t381.length co20) : Value).ownBlock ∧ some k_ ≠ ((.slice Ao21 t384.length co21) : Value).ownBlock ∧ some k_ ≠ ((.slice Ao23 t390.length co23) : Value).ownBlock) (.slice Ao22 t387.length co22) t387) ∧ Aside0 (Kd.R (Kd.int .i64) 3 wc w.heap.size (fun k_ => some k_ ≠ ((.slice Ao20 t381.length co20) : Value).ownBlock ∧ some k_ ≠ ((.slice Ao21 t384.length co21) : Value).ownBlock ∧ some k_ ≠ ((.slice Ao22 t387.length co22) : Value).ownBlock) (.slice Ao23 t390.length co23) t390) ∧ Aside0 (wc.heap[gb375]? = some (.cells #[.int .i64 a1_0, .int .i64 a1_1, .int .i64 a1_2, (.slice A1_3 l1_3.length c1_3), (.slice A1_4 l1_4.length c1_4), (.slice A1_5 l1_5.length c1_5), (.slice A1_6 l1_6.length c1_6), .int .i64 a1_7, .int .i64 a1_8, .bool a1_9] 25 (0, 0))) ∧ Aside0 (wc.heap[gb376]? = some (.cells #[.int .i64 0, .int .i64 0, .int .i64 0, (.slice none 0 0), (.slice none 0 0), (.slice none 0 0), (.slice none 0 0), .int .i64 0, .int .i64 0, .bool false] 25 (0, 0))) ∧ Aside0 (wc.heap[gb396]? = some (.cells #[.int .i64 t378, .int .i64 t379, .int .i64 t380, (.slice Ao20 t381.length co20), (.slice Ao21 t384.length co21), (.slice Ao22 t387.length co22), (.slice Ao23 t390.length co23), .int .i64 t393, .int .i64 t394, .bool t395] 25 (0, 0))) ∧ Aside0 (Below w.heap.size w wc))
  case first =>
   have H := HC8.out
   clear HC8
   by_cases c24 : a1_9 = true
   ·subst c24
    have H1 : (if 0 ≤ a1_0 then (if a1_0 < (l0.length : Int) then ((hinterlandref10_Takes.f k ((rd_T39 l0 a1_0).f0) ((rd_T39 l0 a1_0).f1) ((rd_T39 l0 a1_0).f2) a2).bind fun t398 => (hinterlandref10_Bring.j0 k l0 a3 (!t398) a1_0 a1_1 a1_2 l1_3 l1_4 l1_5 l1_6 a1_7 a1_8 true t378 t379 t380 t381 t384 t387 t390 t393 t394 t395)) else (none)) else (none)) = some (r1, r2, r3, r4, r5, r6, r7, r8, r9, r10, r11, r12) := by rw [if_pos rfl] at H; exact H
    clear H
    have H := H1
    clear H1
    by_cases c25 : 0 ≤ a1_0
    ·rw [if_pos c25] at H
     have c25b0 : decide (0 ≤ a1_0) = true := decide_eq_true c25
     clear c25
     (first | rw [c25b0] | (simp only [i64_w, i32_w]; rw [c25b0]) | skip)
     by_cases c26 : a1_0 < (l0.length : Int)
     ·rw [if_pos c26] at H
      have c26b0 : decide (a1_0 < (l0.length : Int)) = true := decide_eq_true c26
      clear c26
      replace H := Option.bind_eq_some_iff.mp H
      obtain ⟨t398, A270, H⟩ := H
      replace H : (hinterlandref10_Bring.j0 k l0 a3 (!t398) a1_0 a1_1 a1_2 l1_3 l1_4 l1_5 l1_6 a1_7 a1_8 true t378 t379 t380 t381 t384 t387 t390 t393 t394 t395) = some (r1, r2, r3, r4, r5, r6, r7, r8, r9, r10, r11, r12) := H
      have A27 := Aside0.mk A270
      clear A270
      have H' := Aside0.mk H
      clear H
      have hnb28 := NB375_376.out
      have hnc28 := NB376_375.out
      have hnb29 := NB375_396.out
      have hnc29 := NB396_375.out
      obtain ⟨hcz30_0, hcz30_1, hcz30_2, hcz30_3, hcz30_4, hcz30_5, hcz30_6, hcz30_7, hcz30_8, hcz30_9, hfz30_0, hfz30_1, hfz30_2, hfz30_3, hfz30_4, hfz30_5, hfz30_6, hfz30_7, hfz30_8, hfz30_9⟩ := cs10_ BK375.out
      have p397 : 0 ≤ (a1_0 : Int) := of_decide_eq_true tW_
      have q397 : a1_0 < (l0.length : Int) := of_decide_eq_true tW_
      obtain ⟨ad397, A397_1, c397_1, A397_2, c397_2, e397, hx397_0, hx397_1, hx397_2, hl397_1, hi397_1, hl397_2, hi397_2⟩ := at_T39 HR0.out a1_0 p397 q397
      cases e397
      have hn397_0 : ad397.block ≠ gb396 := Nat.ne_of_lt (Nat.lt_of_lt_of_le (by have := World.block_lt_of_cell? _ _ hx397_0; first | rwa [add_block] at this | exact this) GW396.out)
      have hn397_1 : ad397.block ≠ gb396 := Nat.ne_of_lt (Nat.lt_of_lt_of_le (by have := World.block_lt_of_cell? _ _ hx397_0; first | rwa [add_block] at this | exact this) GW396.out)
      have hn397_2 : ad397.block ≠ gb396 := Nat.ne_of_lt (Nat.lt_of_lt_of_le (by have := World.block_lt_of_cell? _ _ hx397_0; first | rwa [add_block] at this | exact this) GW396.out)
      have hn397_3 : ad397.block ≠ gb396 := Nat.ne_of_lt (Nat.lt_of_lt_of_le (by have := World.block_lt_of_cell? _ _ hx397_0; first | rwa [add_block] at this | exact this) GW396.out)
      have hn397_4 : ad397.block ≠ gb396 := Nat.ne_of_lt (Nat.lt_of_lt_of_le (by have := World.block_lt_of_cell? _ _ hx397_0; first | rwa [add_block] at this | exact this) GW396.out)
      have hn397_5 : ad397.block ≠ gb396 := Nat.ne_of_lt (Nat.lt_of_lt_of_le (by have := World.block_lt_of_cell? _ _ hx397_0; first | rwa [add_block] at this | exact this) GW396.out)
      have hn397_6 : ad397.block ≠ gb396 := Nat.ne_of_lt (Nat.lt_of_lt_of_le (by have := World.block_lt_of_cell? _ _ hx397_0; first | rwa [add_block] at this | exact this) GW396.out)
      have hn397_7 : ad397.block ≠ gb396 := Nat.ne_of_lt (Nat.lt_of_lt_of_le (by have := World.block_lt_of_cell? _ _ hx397_0; first | rwa [add_block] at this | exact this) GW396.out)
      have hn397_8 : ad397.block ≠ gb396 := Nat.ne_of_lt (Nat.lt_of_lt_of_le (by have := World.block_lt_of_cell? _ _ hx397_0; first | rwa [add_block] at this | exact this) GW396.out)
      have hn397_9 : ad397.block ≠ gb396 := Nat.ne_of_lt (Nat.lt_of_lt_of_le (by have := World.block_lt_of_cell? _ _ hx397_0; first | rwa [add_block] at this | exact this) GW396.out)
      replace hx397_0 := bc_ HB hx397_0
      replace hx397_1 := bc_ HB hx397_1
      replace hx397_2 := bc_ HB hx397_2
      have HR397_1 := Aside0.mk hi397_1
      have HC397_1 := Aside0.mk hl397_1
      clear hi397_1 hl397_1
      have HR397_2 := Aside0.mk hi397_2
      have HC397_2 := Aside0.mk hl397_2
      clear hi397_2 hl397_2
      replace hx397_0 := (cell_far (p := ⟨gb396, 0, none⟩) (aB_ hn397_0) (.int .i64 t378)).trans hx397_0
      replace hx397_1 := (cell_far (p := ⟨gb396, 0, none⟩) (aB_ hn397_0) (.int .i64 t378)).trans hx397_1
      replace hx397_2 := (cell_far (p := ⟨gb396, 0, none⟩) (aB_ hn397_0) (.int .i64 t378)).trans hx397_2
      replace hx397_0 := (cell_far (p := ⟨gb396, 1, none⟩) (aB_ hn397_1) (.int .i64 t379)).trans hx397_0
      replace hx397_1 := (cell_far (p := ⟨gb396, 1, none⟩) (aB_ hn397_1) (.int .i64 t379)).trans hx397_1
      replace hx397_2 := (cell_far (p := ⟨gb396, 1, none⟩) (aB_ hn397_1) (.int .i64 t379)).trans hx397_2
      replace hx397_0 := (cell_far (p := ⟨gb396, 2, none⟩) (aB_ hn397_2) (.int .i64 t380)).trans hx397_0
      replace hx397_1 := (cell_far (p := ⟨gb396, 2, none⟩) (aB_ hn397_2) (.int .i64 t380)).trans hx397_1
      replace hx397_2 := (cell_far (p := ⟨gb396, 2, none⟩) (aB_ hn397_2) (.int .i64 t380)).trans hx397_2
      replace hx397_0 := (cell_far (p := ⟨gb396, 3, none⟩) (aB_ hn397_3) (.slice Ao20 t381.length co20)).trans hx397_0
      replace hx397_1 := (cell_far (p := ⟨gb396, 3, none⟩) (aB_ hn397_3) (.slice Ao20 t381.length co20)).trans hx397_1
      replace hx397_2 := (cell_far (p := ⟨gb396, 3, none⟩) (aB_ hn397_3) (.slice Ao20 t381.length co20)).trans hx397_2
      replace hx397_0 := (cell_far (p := ⟨gb396, 4, none⟩) (aB_ hn397_4) (.slice Ao21 t384.length co21)).trans hx397_0
      replace hx397_1 := (cell_far (p := ⟨gb396, 4, none⟩) (aB_ hn397_4) (.slice Ao21 t384.length co21)).trans hx397_1
      replace hx397_2 := (cell_far (p := ⟨gb396, 4, none⟩) (aB_ hn397_4) (.slice Ao21 t384.length co21)).trans hx397_2
      replace hx397_0 := (cell_far (p := ⟨gb396, 5, none⟩) (aB_ hn397_5) (.slice Ao22 t387.length co22)).trans hx397_0
      replace hx397_1 := (cell_far (p := ⟨gb396, 5, none⟩) (aB_ hn397_5) (.slice Ao22 t387.length co22)).trans hx397_1
      replace hx397_2 := (cell_far (p := ⟨gb396, 5, none⟩) (aB_ hn397_5) (.slice Ao22 t387.length co22)).trans hx397_2
      replace hx397_0 := (cell_far (p := ⟨gb396, 6, none⟩) (aB_ hn397_6) (.slice Ao23 t390.length co23)).trans hx397_0
      replace hx397_1 := (cell_far (p := ⟨gb396, 6, none⟩) (aB_ hn397_6) (.slice Ao23 t390.length co23)).trans hx397_1
      replace hx397_2 := (cell_far (p := ⟨gb396, 6, none⟩) (aB_ hn397_6) (.slice Ao23 t390.length co23)).trans hx397_2
      replace hx397_0 := (cell_far (p := ⟨gb396, 7, none⟩) (aB_ hn397_7) (.int .i64 t393)).trans hx397_0
      replace hx397_1 := (cell_far (p := ⟨gb396, 7, none⟩) (aB_ hn397_7) (.int .i64 t393)).trans hx397_1
      replace hx397_2 := (cell_far (p := ⟨gb396, 7, none⟩) (aB_ hn397_7) (.int .i64 t393)).trans hx397_2
      replace hx397_0 := (cell_far (p := ⟨gb396, 8, none⟩) (aB_ hn397_8) (.int .i64 t394)).trans hx397_0
      replace hx397_1 := (cell_far (p := ⟨gb396, 8, none⟩) (aB_ hn397_8) (.int .i64 t394)).trans hx397_1
      replace hx397_2 := (cell_far (p := ⟨gb396, 8, none⟩) (aB_ hn397_8) (.int .i64 t394)).trans hx397_2
      replace hx397_0 := (cell_far (p := ⟨gb396, 9, none⟩) (aB_ hn397_9) (.bool t395)).trans hx397_0
      replace hx397_1 := (cell_far (p := ⟨gb396, 9, none⟩) (aB_ hn397_9) (.bool t395)).trans hx397_1
      replace hx397_2 := (cell_far (p := ⟨gb396, 9, none⟩) (aB_ hn397_9) (.bool t395)).trans hx397_2
      clear hn397_0
      clear hn397_1
      clear hn397_2
      clear hn397_3
      clear hn397_4
      clear hn397_5
      clear hn397_6
      clear hn397_7
      clear hn397_8
      clear hn397_9
      replace p397 := eq_true p397
      replace q397 := eq_true q397
      go_wp2_with (first | (go_at_call 42; (with_reducible refine (hinterlandref10_Takes.calls k ((rd_T39 l0 a1_0).f0) _ _ ((rd_T39 l0 a1_0).f1) _ _ ((rd_T39 l0 a1_0).f2) a2 t398 _ ?side1 ?side2 ?side3 ?side4 A27.out).mono ?_); (case side1 => exact Kd.C_below HR397_1.out (dL3_ HB GE375 GE376 GE396)); (case side2 => exact HC397_1.out); (case side3 => exact Kd.C_below HR397_2.out (dL3_ HB GE375 GE376 GE396)); (case side4 => exact HC397_2.out); rintro e w31 ⟨rfl, hb⟩; replace HO383 := Aside0.mk (Kd.R_below (by (with_reducible repeat (first | apply Kd.R_alloc | apply Kd.R_drewN | apply Kd.R_drew)); exact (Kd.R_mono (far10_ (Kd.R_types HO383.out BK396.out (by decide)) gb396 (fun _ hk => hk.2) (.int .i64 t378) (.int .i64 t379) (.int .i64 t380) (.slice Ao20 t381.length co20) (.slice Ao21 t384.length co21) (.slice Ao22 t387.length co22) (.slice Ao23 t390.length co23) (.int .i64 t393) (.int .i64 t394) (.bool t395)) (fun _ h_ => h_.1))) hb); replace HO386 := Aside0.mk (Kd.R_below (by (with_reducible repeat (first | apply Kd.R_alloc | apply Kd.R_drewN | apply Kd.R_drew)); exact (Kd.R_mono (far10_ (Kd.R_types HO386.out BK396.out (by decide)) gb396 (fun _ hk => hk.2) (.int .i64 t378) (.int .i64 t379) (.int .i64 t380) (.slice Ao20 t381.length co20) (.slice Ao21 t384.length co21) (.slice Ao22 t387.length co22) (.slice Ao23 t390.length co23) (.int .i64 t393) (.int .i64 t394) (.bool t395)) (fun _ h_ => h_.1))) hb); replace HO389 := Aside0.mk (Kd.R_below (by (with_reducible repeat (first | apply Kd.R_alloc | apply Kd.R_drewN | apply Kd.R_drew)); exact (Kd.R_mono (far10_ (Kd.R_types HO389.out BK396.out (by decide)) gb396 (fun _ hk => hk.2) (.int .i64 t378) (.int .i64 t379) (.int .i64 t380) (.slice Ao20 t381.length co20) (.slice Ao21 t384.length co21) (.slice Ao22 t387.length co22) (.slice Ao23 t390.length co23) (.int .i64 t393) (.int .i64 t394) (.bool t395)) (fun _ h_ => h_.1))) hb); replace HO392 := Aside0.mk (Kd.R_below (by (with_reducible repeat (first | apply Kd.R_alloc | apply Kd.R_drewN | apply Kd.R_drew)); exact (Kd.R_mono (far10_ (Kd.R_types HO392.out BK396.out (by decide)) gb396 (fun _ hk => hk.2) (.int .i64 t378) (.int .i64 t379) (.int .i64 t380) (.slice Ao20 t381.length co20) (.slice Ao21 t384.length co21) (.slice Ao22 t387.length co22) (.slice Ao23 t390.length co23) (.int .i64 t393) (.int .i64 t394) (.bool t395)) (fun _ h_ => h_.1))) hb); replace BK375 := Aside0.mk (blk_below (g := gb375) (o := .cells #[.int .i64 a1_0, .int .i64 a1_1, .int .i64 a1_2, .slice A1_3 l1_3.length c1_3, .slice A1_4 l1_4.length c1_4, .slice A1_5 l1_5.length c1_5, .slice A1_6 l1_6.length c1_6, .int .i64 a1_7, .int .i64 a1_8, .bool true] 25 (0, 0)) (dF10_ BK375 NB375_396) hb); replace BK376 := Aside0.mk (blk_below (g := gb376) (o := .cells #[.int .i64 0, .int .i64 0, .int .i64 0, .slice none 0 0, .slice none 0 0, .slice none 0 0, .slice none 0 0, .int .i64 0, .int .i64 0, .bool false] 25 (0, 0)) (dF10_ BK376 NB376_396) hb); replace BK396 := Aside0.mk (blk_below (g := gb396) (o := .cells #[.int .i64 t378, .int .i64 t379, .int .i64 t380, .slice Ao20 t381.length co20, .slice Ao21 t384.length co21, .slice Ao22 t387.length co22, .slice Ao23 t390.length co23, .int .i64 t393, .int .i64 t394, .bool t395] 25 (0, 0)) (dP10_ BK396) hb); replace HB := Aside0.mk (below_step (dL3_ HB GE375 GE376 GE396) hb)))
      go_meet
      case rel => exact ⟨_, (!t398), tS_, H', ⟨by first | omega | exact Nat.le_refl _⟩, ⟨dR_ HO383⟩, ⟨dR_ HO386⟩, ⟨dR_ HO389⟩, ⟨dR_ HO392⟩, ⟨dB_ BK375⟩, ⟨dB_ BK376⟩, ⟨dB_ BK396⟩, ⟨dL3_ HB GE375 GE376 GE396⟩⟩
     ·rw [if_neg c26] at H
      exact absurd H (by simp)
    ·rw [if_neg c25] at H
     exact absurd H (by simp)
   ·replace c24 := Bool.eq_false_iff.mpr c24
    subst c24
    have H1 : (hinterlandref10_Bring.j0 k l0 a3 true a1_0 a1_1 a1_2 l1_3 l1_4 l1_5 l1_6 a1_7 a1_8 false t378 t379 t380 t381 t384 t387 t390 t393 t394 t395) = some (r1, r2, r3, r4, r5, r6, r7, r8, r9, r10, r11, r12) := by rw [if_neg (show ¬ (false = true) by decide)] at H; exact H
    clear H
    have H := H1
    clear H1
    have H' := Aside0.mk H
    clear H
    have hnb32 := NB375_376.out
    have hnc32 := NB376_375.out
    have hnb33 := NB375_396.out
    have hnc33 := NB396_375.out
    obtain ⟨hcz34_0, hcz34_1, hcz34_2, hcz34_3, hcz34_4, hcz34_5, hcz34_6, hcz34_7, hcz34_8, hcz34_9, hfz34_0, hfz34_1, hfz34_2, hfz34_3, hfz34_4, hfz34_5, hfz34_6, hfz34_7, hfz34_8, hfz34_9⟩ := cs10_ BK375.out
    go_wp2
    go_meet
    case rel => exact ⟨_, (true), tS_, H', ⟨by first | omega | exact Nat.le_refl _⟩, ⟨by (with_reducible repeat (first | apply Kd.R_alloc | apply Kd.R_drewN | apply Kd.R_drew)); exact Kd.R_mono (far10_ (Kd.R_types HO383.out BK396.out (by decide)) gb396 (fun _ hk => hk.2) (.int .i64 t378) (.int .i64 t379) (.int .i64 t380) (.slice Ao20 t381.length co20) (.slice Ao21 t384.length co21) (.slice Ao22 t387.length co22) (.slice Ao23 t390.length co23) (.int .i64 t393) (.int .i64 t394) (.bool t395)) (fun _ hk => ⟨hk.1.1, ⟨hk.1.2.1, hk.1.2.2⟩⟩)⟩, ⟨by (with_reducible repeat (first | apply Kd.R_alloc | apply Kd.R_drewN | apply Kd.R_drew)); exact Kd.R_mono (far10_ (Kd.R_types HO386.out BK396.out (by decide)) gb396 (fun _ hk => hk.2) (.int .i64 t378) (.int .i64 t379) (.int .i64 t380) (.slice Ao20 t381.length co20) (.slice Ao21 t384.length co21) (.slice Ao22 t387.length co22) (.slice Ao23 t390.length co23) (.int .i64 t393) (.int .i64 t394) (.bool t395)) (fun _ hk => ⟨hk.1.1, ⟨hk.1.2.1, hk.1.2.2⟩⟩)⟩, ⟨by (with_reducible repeat (first | apply Kd.R_alloc | apply Kd.R_drewN | apply Kd.R_drew)); exact Kd.R_mono (far10_ (Kd.R_types HO389.out BK396.out (by decide)) gb396 (fun _ hk => hk.2) (.int .i64 t378) (.int .i64 t379) (.int .i64 t380) (.slice Ao20 t381.length co20) (.slice Ao21 t384.length co21) (.slice Ao22 t387.length co22) (.slice Ao23 t390.length co23) (.int .i64 t393) (.int .i64 t394) (.bool t395)) (fun _ hk => ⟨hk.1.1, ⟨hk.1.2.1, hk.1.2.2⟩⟩)⟩, ⟨by (with_reducible repeat (first | apply Kd.R_alloc | apply Kd.R_drewN | apply Kd.R_drew)); exact Kd.R_mono (far10_ (Kd.R_types HO392.out BK396.out (by decide)) gb396 (fun _ hk => hk.2) (.int .i64 t378) (.int .i64 t379) (.int .i64 t380) (.slice Ao20 t381.length co20) (.slice Ao21 t384.length co21) (.slice Ao22 t387.length co22) (.slice Ao23 t390.length co23) (.int .i64 t393) (.int .i64 t394) (.bool t395)) (fun _ hk => ⟨hk.1.1, ⟨hk.1.2.1, hk.1.2.2⟩⟩)⟩, ⟨dF10_ BK375 NB375_396⟩, ⟨dF10_ BK376 NB376_396⟩, ⟨dP10_ BK396⟩, ⟨dL3_ HB GE375 GE376 GE396⟩⟩
  case rest =>
   clear HC8
   try clear c6
   try clear c6b0
   try clear c6b1
   try clear c25
   try clear c26
   try clear hcz12_0
   try clear hcz12_1
   try clear hcz12_2
   try clear hcz12_3
   try clear hcz12_4
   try clear hcz12_5
   try clear hcz12_6
   try clear hcz12_7
   try clear hcz12_8
   try clear hcz12_9
   try clear hcz14_0
   try clear hcz14_1
   try clear hcz14_2
   try clear hcz14_3
   try clear hcz14_4
   try clear hcz14_5
   try clear hcz14_6
   try clear hcz14_7
   try clear hcz14_8
   try clear hcz14_9
   try clear hcz19_0
   try clear hcz19_1
   try clear hcz19_2
   try clear hcz19_3
   try clear hcz19_4
   try clear hcz19_5
   try clear hcz19_6
   try clear hcz19_7
   try clear hcz19_8
   try clear hcz19_9
   try clear hfz12_0
   try clear hfz12_1
   try clear hfz12_2
   try clear hfz12_3
   try clear hfz12_4
   try clear hfz12_5
   try clear hfz12_6
   try clear hfz12_7
   try clear hfz12_8
   try clear hfz12_9
   try clear hfz14_0
   try clear hfz14_1
   try clear hfz14_2
   try clear hfz14_3
   try clear hfz14_4
   try clear hfz14_5
   try clear hfz14_6
   try clear hfz14_7
   try clear hfz14_8
   try clear hfz14_9
   try clear hfz19_0
   try clear hfz19_1
   try clear hfz19_2
   try clear hfz19_3
   try clear hfz19_4
   try clear hfz19_5
   try clear hfz19_6
   try clear hfz19_7
   try clear hfz19_8
   try clear hfz19_9
   obtain ⟨kq, x39_7, rfl, HA, HJ7, HO_397003, HO_397004, HO_397005, HO_397006, BK375, BK376, BK396, HB⟩ := hcut
   cases kq with
   | zero => exact absurd HA.out (by simp [hinterlandref10_Bring.j0])
   | succ kj7 =>
    have H := HA.out
    clear HA
    simp only [hinterlandref10_Bring.j0] at H
    by_cases c35 : x39_7 = true
    ·subst c35
     have H1 : (some (t378, t379, t380, t381, t384, t387, t390, t393, t394, t395, 0, 0)) = some (r1, r2, r3, r4, r5, r6, r7, r8, r9, r10, r11, r12) := by rw [if_pos rfl] at H; exact H
     clear H
     have H := H1
     clear H1
     simp only [Option.some.injEq, Prod.mk.injEq] at H
     obtain ⟨rfl, rfl, rfl, rfl, rfl, rfl, rfl, rfl, rfl, rfl, rfl, rfl⟩ := H
     have hnb36 := NB396_375.out
     have hnc36 := NB375_396.out
     have hnb37 := NB396_376.out
     have hnc37 := NB376_396.out
     obtain ⟨hcz38_0, hcz38_1, hcz38_2, hcz38_3, hcz38_4, hcz38_5, hcz38_6, hcz38_7, hcz38_8, hcz38_9, hfz38_0, hfz38_1, hfz38_2, hfz38_3, hfz38_4, hfz38_5, hfz38_6, hfz38_7, hfz38_8, hfz38_9⟩ := cs10_ BK396.out
     have hnb39 := NB376_375.out
     have hnc39 := NB375_376.out
     obtain ⟨hcz40_0, hcz40_1, hcz40_2, hcz40_3, hcz40_4, hcz40_5, hcz40_6, hcz40_7, hcz40_8, hcz40_9, hfz40_0, hfz40_1, hfz40_2, hfz40_3, hfz40_4, hfz40_5, hfz40_6, hfz40_7, hfz40_8, hfz40_9⟩ := cs10_ BK376.out
     go_wp2
     refine bodyPost_ret (results_ctt rfl _ _ gb376 25 #[.int .i64 t378, .int .i64 t379, .int .i64 t380, .slice Ao20 t381.length co20, .slice Ao21 t384.length co21, .slice Ao22 t387.length co22, .slice Ao23 t390.length co23, .int .i64 t393, .int .i64 t394, .bool t395] (0, 0) _ rfl (dP10_ BK376) Try.underlying25 rfl (by kernel_rfl)) rfl ?_
     exact ⟨_, _, _, _, tE_, by (with_reducible repeat (first | apply Kd.R_alloc | apply Kd.R_drewN | apply Kd.R_drew)); exact Kd.R_mono (far10_ (Kd.R_types HO_397003.out BK376.out (by decide)) gb376 (fun _ hk => hk.2) (.int .i64 t378) (.int .i64 t379) (.int .i64 t380) (.slice Ao20 t381.length co20) (.slice Ao21 t384.length co21) (.slice Ao22 t387.length co22) (.slice Ao23 t390.length co23) (.int .i64 t393) (.int .i64 t394) (.bool t395)) (fun _ hk => ⟨hk.1.1, ⟨hk.1.2.1, hk.1.2.2⟩⟩), by (with_reducible repeat (first | apply Kd.R_alloc | apply Kd.R_drewN | apply Kd.R_drew)); exact Kd.R_mono (far10_ (Kd.R_types HO_397004.out BK376.out (by decide)) gb376 (fun _ hk => hk.2) (.int .i64 t378) (.int .i64 t379) (.int .i64 t380) (.slice Ao20 t381.length co20) (.slice Ao21 t384.length co21) (.slice Ao22 t387.length co22) (.slice Ao23 t390.length co23) (.int .i64 t393) (.int .i64 t394) (.bool t395)) (fun _ hk => ⟨hk.1.1, ⟨hk.1.2.1, hk.1.2.2⟩⟩), by (with_reducible repeat (first | apply Kd.R_alloc | apply Kd.R_drewN | apply Kd.R_drew)); exact Kd.R_mono (far10_ (Kd.R_types HO_397005.out BK376.out (by decide)) gb376 (fun _ hk => hk.2) (.int .i64 t378) (.int .i64 t379) (.int .i64 t380) (.slice Ao20 t381.length co20) (.slice Ao21 t384.length co21) (.slice Ao22 t387.length co22) (.slice Ao23 t390.length co23) (.int .i64 t393) (.int .i64 t394) (.bool t395)) (fun _ hk => ⟨hk.1.1, ⟨hk.1.2.1, hk.1.2.2⟩⟩), by (with_reducible repeat (first | apply Kd.R_alloc | apply Kd.R_drewN | apply Kd.R_drew)); exact Kd.R_mono (far10_ (Kd.R_types HO_397006.out BK376.out (by decide)) gb376 (fun _ hk => hk.2) (.int .i64 t378) (.int .i64 t379) (.int .i64 t380) (.slice Ao20 t381.length co20) (.slice Ao21 t384.length co21) (.slice Ao22 t387.length co22) (.slice Ao23 t390.length co23) (.int .i64 t393) (.int .i64 t394) (.bool t395)) (fun _ hk => ⟨hk.1.1, ⟨hk.1.2.1, hk.1.2.2⟩⟩), dL3_ HB GE375 GE376 GE396⟩
    ·replace c35 := Bool.eq_false_iff.mpr c35
     subst c35
     have H1 : (if 0 ≤ a1_0 then (if a1_0 < (l0.length : Int) then (hinterlandref10_Bring.l0 kj7 a3 ((rd_T39 l0 a1_0).f2) (((rd_T39 l0 a1_0).f2).length : Int) 0 a1_0 a1_1 a1_2 l1_3 l1_4 l1_5 l1_6 a1_7 a1_8 a1_9 t378 t379 t380 t381 t384 t387 t390 t393 t394 t395) else (none)) else (none)) = some (r1, r2, r3, r4, r5, r6, r7, r8, r9, r10, r11, r12) := by rw [if_neg (show ¬ (false = true) by decide)] at H; exact H
     clear H
     have H := H1
     clear H1
     by_cases c41 : 0 ≤ a1_0
     ·rw [if_pos c41] at H
      have c41b0 : decide (0 ≤ a1_0) = true := decide_eq_true c41
      clear c41
      by_cases c42 : a1_0 < (l0.length : Int)
      ·rw [if_pos c42] at H
       have c42b0 : decide (a1_0 < (l0.length : Int)) = true := decide_eq_true c42
       clear c42
       have H' := Aside0.mk H
       clear H
       have hnb43 := NB375_376.out
       have hnc43 := NB376_375.out
       have hnb44 := NB375_396.out
       have hnc44 := NB396_375.out
       obtain ⟨hcz45_0, hcz45_1, hcz45_2, hcz45_3, hcz45_4, hcz45_5, hcz45_6, hcz45_7, hcz45_8, hcz45_9, hfz45_0, hfz45_1, hfz45_2, hfz45_3, hfz45_4, hfz45_5, hfz45_6, hfz45_7, hfz45_8, hfz45_9⟩ := cs10_ BK375.out
       have p399 : 0 ≤ (a1_0 : Int) := of_decide_eq_true tW_
       have q399 : a1_0 < (l0.length : Int) := of_decide_eq_true tW_
       obtain ⟨ad399, A399_1, c399_1, A399_2, c399_2, e399, hx399_0, hx399_1, hx399_2, hl399_1, hi399_1, hl399_2, hi399_2⟩ := at_T39 HR0.out a1_0 p399 q399
       cases e399
       replace hx399_0 := bc_ HB hx399_0
       replace hx399_1 := bc_ HB hx399_1
       replace hx399_2 := bc_ HB hx399_2
       have HR399_1 := Aside0.mk hi399_1
       have HC399_1 := Aside0.mk hl399_1
       clear hi399_1 hl399_1
       have HR399_2 := Aside0.mk hi399_2
       have HC399_2 := Aside0.mk hl399_2
       clear hi399_2 hl399_2
       replace p399 := eq_true p399
       replace q399 := eq_true q399
       go_wp2
       go_loopg [48] kj7 (fun kq v48 w' => ∃ (x48_2 : Int) (x397003_2 : List Int) (x397004_2 : List Int) (x397005_2 : List Int) (x397006_2 : List Int) (u397003 : Value) (u397004 : Value) (u397005 : Value) (u397006 : Value), v48 = .int .i64 x48_2 ∧ Aside0 (hinterlandref10_Bring.l0 kq a3 ((rd_T39 l0 a1_0).f2) (((rd_T39 l0 a1_0).f2).length : Int) x48_2 a1_0 a1_1 a1_2 l1_3 l1_4 l1_5 l1_6 a1_7 a1_8 a1_9 t378 t379 t380 x397003_2 x397004_2 x397005_2 x397006_2 t393 t394 t395 = some (r1, r2, r3, r4, r5, r6, r7, r8, r9, r10, r11, r12)) ∧ Aside0 (kq ≤ kj7) ∧ Aside0 (Kd.R (Kd.int .i64) 3 w' w.heap.size (fun k_ => some k_ ≠ (u397004 : Value).ownBlock ∧ some k_ ≠ (u397005 : Value).ownBlock ∧ some k_ ≠ (u397006 : Value).ownBlock) u397003 x397003_2) ∧ Aside0 (Kd.R (Kd.int .i64) 3 w' w.heap.size (fun k_ => some k_ ≠ (u397003 : Value).ownBlock ∧ some k_ ≠ (u397005 : Value).ownBlock ∧ some k_ ≠ (u397006 : Value).ownBlock) u397004 x397004_2) ∧ Aside0 (Kd.R (Kd.int .i64) 3 w' w.heap.size (fun k_ => some k_ ≠ (u397003 : Value).ownBlock ∧ some k_ ≠ (u397004 : Value).ownBlock ∧ some k_ ≠ (u397006 : Value).ownBlock) u397005 x397005_2) ∧ Aside0 (Kd.R (Kd.int .i64) 3 w' w.heap.size (fun k_ => some k_ ≠ (u397003 : Value).ownBlock ∧ some k_ ≠ (u397004 : Value).ownBlock ∧ some k_ ≠ (u397005 : Value).ownBlock) u397006 x397006_2) ∧ Aside0 (w'.heap[gb375]? = some (.cells #[.int .i64 a1_0, .int .i64 a1_1, .int .i64 a1_2, (.slice A1_3 l1_3.length c1_3), (.slice A1_4 l1_4.length c1_4), (.slice A1_5 l1_5.length c1_5), (.slice A1_6 l1_6.length c1_6), .int .i64 a1_7, .int .i64 a1_8, .bool a1_9] 25 (0, 0))) ∧ Aside0 (w'.heap[gb376]? = some (.cells #[.int .i64 0, .int .i64 0, .int .i64 0, (.slice none 0 0), (.slice none 0 0), (.slice none 0 0), (.slice none 0 0), .int .i64 0, .int .i64 0, .bool false] 25 (0, 0))) ∧ Aside0 (w'.heap[gb396]? = some (.cells #[.int .i64 t378, .int .i64 t379, .int .i64 t380, u397003, u397004, u397005, u397006, .int .i64 t393, .int .i64 t394, .bool t395] 25 (0, 0))) ∧ Aside0 (Below w.heap.size w w'))
       case atStart => exact ⟨(0), (t381), (t384), (t387), (t390), (.slice Ao20 t381.length co20), (.slice Ao21 t384.length co21), (.slice Ao22 t387.length co22), (.slice Ao23 t390.length co23), tS_, H', ⟨Nat.le_refl _⟩, ⟨dR_ HO_397003⟩, ⟨dR_ HO_397004⟩, ⟨dR_ HO_397005⟩, ⟨dR_ HO_397006⟩, ⟨dB_ BK375⟩, ⟨dB_ BK376⟩, ⟨dB_ BK396⟩, ⟨dL3_ HB GE375 GE376 GE396⟩⟩
       case round =>
        clear H'
        try clear c6
        try clear c6b0
        try clear c6b1
        try clear c25
        try clear c26
        try clear c35
        try clear c41
        try clear c41b0
        try clear c42
        try clear c42b0
        try clear hcz12_0
        try clear hcz12_1
        try clear hcz12_2
        try clear hcz12_3
        try clear hcz12_4
        try clear hcz12_5
        try clear hcz12_6
        try clear hcz12_7
        try clear hcz12_8
        try clear hcz12_9
        try clear hcz14_0
        try clear hcz14_1
        try clear hcz14_2
        try clear hcz14_3
        try clear hcz14_4
        try clear hcz14_5
        try clear hcz14_6
        try clear hcz14_7
        try clear hcz14_8
        try clear hcz14_9
        try clear hcz19_0
        try clear hcz19_1
        try clear hcz19_2
        try clear hcz19_3
        try clear hcz19_4
        try clear hcz19_5
        try clear hcz19_6
        try clear hcz19_7
        try clear hcz19_8
        try clear hcz19_9
        try clear hcz45_0
        try clear hcz45_1
        try clear hcz45_2
        try clear hcz45_3
        try clear hcz45_4
        try clear hcz45_5
        try clear hcz45_6
        try clear hcz45_7
        try clear hcz45_8
        try clear hcz45_9
        try clear hfz12_0
        try clear hfz12_1
        try clear hfz12_2
        try clear hfz12_3
        try clear hfz12_4
        try clear hfz12_5
        try clear hfz12_6
        try clear hfz12_7
        try clear hfz12_8
        try clear hfz12_9
        try clear hfz14_0
        try clear hfz14_1
        try clear hfz14_2
        try clear hfz14_3
        try clear hfz14_4
        try clear hfz14_5
        try clear hfz14_6
        try clear hfz14_7
        try clear hfz14_8
        try clear hfz14_9
        try clear hfz19_0
        try clear hfz19_1
        try clear hfz19_2
        try clear hfz19_3
        try clear hfz19_4
        try clear hfz19_5
        try clear hfz19_6
        try clear hfz19_7
        try clear hfz19_8
        try clear hfz19_9
        try clear hfz45_0
        try clear hfz45_1
        try clear hfz45_2
        try clear hfz45_3
        try clear hfz45_4
        try clear hfz45_5
        try clear hfz45_6
        try clear hfz45_7
        try clear hfz45_8
        try clear hfz45_9
        try clear hx399_0
        try clear hx399_1
        try clear hx399_2
        try clear p399
        try clear q399
        obtain ⟨x48_2, x397003_2, x397004_2, x397005_2, x397006_2, u397003, u397004, u397005, u397006, rfl, HA, HK2, HO_397003, HO_397004, HO_397005, HO_397006, BK375, BK376, BK396, HB⟩ := hrel
        cases gk with
        | zero => exact absurd HA.out (by simp [hinterlandref10_Bring.l0])
        | succ k2 =>
         have H := HA.out
         clear HA
         simp only [hinterlandref10_Bring.l0] at H
         by_cases c46 : x48_2 < (((rd_T39 l0 a1_0).f2).length : Int)
         ·rw [if_pos c46] at H
          have c46b0 : decide (x48_2 < (((rd_T39 l0 a1_0).f2).length : Int)) = true := decide_eq_true c46
          clear c46
          by_cases c47 : 0 ≤ x48_2
          ·rw [if_pos c47] at H
           have c47b0 : decide (0 ≤ x48_2) = true := decide_eq_true c47
           clear c47
           by_cases c48 : x48_2 < (((rd_T39 l0 a1_0).f2).length : Int)
           ·rw [if_pos c48] at H
            have c48b0 : decide (x48_2 < (((rd_T39 l0 a1_0).f2).length : Int)) = true := decide_eq_true c48
            clear c48
            by_cases c49 : x48_2 < (l1_4.length : Int)
            ·rw [if_pos c49] at H
             have c49b0 : decide (x48_2 < (l1_4.length : Int)) = true := decide_eq_true c49
             clear c49
             by_cases c50 : x48_2 < (x397004_2.length : Int)
             ·rw [if_pos c50] at H
              have c50b0 : decide (x48_2 < (x397004_2.length : Int)) = true := decide_eq_true c50
              clear c50
              obtain ⟨y403, hy403⟩ : ∃ y_ : List Int, y_ = (x397004_2.set (x48_2 : Int).toNat (Int.tmod (wrap64 ((rd l1_4 x48_2) + (wrap64 (a3 * ((rd_T41 ((rd_T39 l0 a1_0).f2) x48_2).f1))))) 8)) := ⟨_, rfl⟩
              replace H : (if x48_2 < (l1_3.length : Int) then (if x48_2 < (x397003_2.length : Int) then (if x48_2 < (l1_5.length : Int) then (if x48_2 < (x397005_2.length : Int) then (hinterlandref10_Bring.l0 k2 a3 ((rd_T39 l0 a1_0).f2) (((rd_T39 l0 a1_0).f2).length : Int) (wrap64 (x48_2 + 1)) a1_0 a1_1 a1_2 l1_3 l1_4 l1_5 l1_6 a1_7 a1_8 a1_9 t378 t379 t380 (x397003_2.set (x48_2 : Int).toNat (mn (wrap64 ((rd l1_3 x48_2) + (wrap64 (Int.tdiv (wrap64 ((rd l1_4 x48_2) + (wrap64 (a3 * ((rd_T41 ((rd_T39 l0 a1_0).f2) x48_2).f1))))) 8)))) 1000000)) y403 (x397005_2.set (x48_2 : Int).toNat (mn (wrap64 ((rd l1_5 x48_2) + (wrap64 (Int.tdiv (wrap64 ((rd l1_4 x48_2) + (wrap64 (a3 * ((rd_T41 ((rd_T39 l0 a1_0).f2) x48_2).f1))))) 8)))) 1000000)) x397006_2 t393 t394 t395) else (none)) else (none)) else (none)) else (none)) = some (r1, r2, r3, r4, r5, r6, r7, r8, r9, r10, r11, r12) := by first | (rw [hy403]; with_reducible exact H) | (have H2_ := (Option.bind_some _ _).symm.trans H; rw [hy403]; with_reducible exact H2_) | (have H2_ := (Option.bind_some _ _).symm.trans H; with_reducible exact H2_) | with_reducible exact H | (rw [hy403]; exact H) | exact H
              have Ny403 := Aside0.mk hy403
              clear hy403
              by_cases c52 : x48_2 < (l1_3.length : Int)
              ·rw [if_pos c52] at H
               have c52b0 : decide (x48_2 < (l1_3.length : Int)) = true := decide_eq_true c52
               clear c52
               obtain ⟨ji53, hji53⟩ : ∃ j_ : Int, (mn (wrap64 ((rd l1_3 x48_2) + (wrap64 (Int.tdiv (wrap64 ((rd l1_4 x48_2) + (wrap64 (a3 * ((rd_T41 ((rd_T39 l0 a1_0).f2) x48_2).f1))))) 8)))) 1000000) = j_ := ⟨_, rfl⟩
               replace H : (if x48_2 < (x397003_2.length : Int) then (if x48_2 < (l1_5.length : Int) then (if x48_2 < (x397005_2.length : Int) then (hinterlandref10_Bring.l0 k2 a3 ((rd_T39 l0 a1_0).f2) (((rd_T39 l0 a1_0).f2).length : Int) (wrap64 (x48_2 + 1)) a1_0 a1_1 a1_2 l1_3 l1_4 l1_5 l1_6 a1_7 a1_8 a1_9 t378 t379 t380 (x397003_2.set (x48_2 : Int).toNat (ji53)) y403 (x397005_2.set (x48_2 : Int).toNat (mn (wrap64 ((rd l1_5 x48_2) + (wrap64 (Int.tdiv (wrap64 ((rd l1_4 x48_2) + (wrap64 (a3 * ((rd_T41 ((rd_T39 l0 a1_0).f2) x48_2).f1))))) 8)))) 1000000)) x397006_2 t393 t394 t395) else (none)) else (none)) else (none)) = some (r1, r2, r3, r4, r5, r6, r7, r8, r9, r10, r11, r12) := by first | (rw [hji53] at H; exact H) | (simp only [hji53] at H ⊢; exact H)
               have hji53_ : (if 1000000 < (wrap64 ((rd l1_3 x48_2) + (wrap64 (Int.tdiv (wrap64 ((rd l1_4 x48_2) + (wrap64 (a3 * ((rd_T41 ((rd_T39 l0 a1_0).f2) x48_2).f1))))) 8)))) then 1000000 else (wrap64 ((rd l1_3 x48_2) + (wrap64 (Int.tdiv (wrap64 ((rd l1_4 x48_2) + (wrap64 (a3 * ((rd_T41 ((rd_T39 l0 a1_0).f2) x48_2).f1))))) 8))))) = ji53 := hji53
               by_cases c54 : x48_2 < (x397003_2.length : Int)
               ·rw [if_pos c54] at H
                have c54b0 : decide (x48_2 < (x397003_2.length : Int)) = true := decide_eq_true c54
                clear c54
                obtain ⟨y405, hy405⟩ : ∃ y_ : List Int, y_ = (x397003_2.set (x48_2 : Int).toNat (ji53)) := ⟨_, rfl⟩
                replace H : (if x48_2 < (l1_5.length : Int) then (if x48_2 < (x397005_2.length : Int) then (hinterlandref10_Bring.l0 k2 a3 ((rd_T39 l0 a1_0).f2) (((rd_T39 l0 a1_0).f2).length : Int) (wrap64 (x48_2 + 1)) a1_0 a1_1 a1_2 l1_3 l1_4 l1_5 l1_6 a1_7 a1_8 a1_9 t378 t379 t380 y405 y403 (x397005_2.set (x48_2 : Int).toNat (mn (wrap64 ((rd l1_5 x48_2) + (wrap64 (Int.tdiv (wrap64 ((rd l1_4 x48_2) + (wrap64 (a3 * ((rd_T41 ((rd_T39 l0 a1_0).f2) x48_2).f1))))) 8)))) 1000000)) x397006_2 t393 t394 t395) else (none)) else (none)) = some (r1, r2, r3, r4, r5, r6, r7, r8, r9, r10, r11, r12) := by first | (rw [hy405]; with_reducible exact H) | (have H2_ := (Option.bind_some _ _).symm.trans H; rw [hy405]; with_reducible exact H2_) | (have H2_ := (Option.bind_some _ _).symm.trans H; with_reducible exact H2_) | with_reducible exact H | (rw [hy405]; exact H) | exact H
                have Ny405 := Aside0.mk hy405
                clear hy405
                by_cases c56 : x48_2 < (l1_5.length : Int)
                ·rw [if_pos c56] at H
                 have c56b0 : decide (x48_2 < (l1_5.length : Int)) = true := decide_eq_true c56
                 clear c56
                 obtain ⟨ji57, hji57⟩ : ∃ j_ : Int, (mn (wrap64 ((rd l1_5 x48_2) + (wrap64 (Int.tdiv (wrap64 ((rd l1_4 x48_2) + (wrap64 (a3 * ((rd_T41 ((rd_T39 l0 a1_0).f2) x48_2).f1))))) 8)))) 1000000) = j_ := ⟨_, rfl⟩
                 replace H : (if x48_2 < (x397005_2.length : Int) then (hinterlandref10_Bring.l0 k2 a3 ((rd_T39 l0 a1_0).f2) (((rd_T39 l0 a1_0).f2).length : Int) (wrap64 (x48_2 + 1)) a1_0 a1_1 a1_2 l1_3 l1_4 l1_5 l1_6 a1_7 a1_8 a1_9 t378 t379 t380 y405 y403 (x397005_2.set (x48_2 : Int).toNat (ji57)) x397006_2 t393 t394 t395) else (none)) = some (r1, r2, r3, r4, r5, r6, r7, r8, r9, r10, r11, r12) := by first | (rw [hji57] at H; exact H) | (simp only [hji57] at H ⊢; exact H)
                 have hji57_ : (if 1000000 < (wrap64 ((rd l1_5 x48_2) + (wrap64 (Int.tdiv (wrap64 ((rd l1_4 x48_2) + (wrap64 (a3 * ((rd_T41 ((rd_T39 l0 a1_0).f2) x48_2).f1))))) 8)))) then 1000000 else (wrap64 ((rd l1_5 x48_2) + (wrap64 (Int.tdiv (wrap64 ((rd l1_4 x48_2) + (wrap64 (a3 * ((rd_T41 ((rd_T39 l0 a1_0).f2) x48_2).f1))))) 8))))) = ji57 := hji57
                 by_cases c58 : x48_2 < (x397005_2.length : Int)
                 ·rw [if_pos c58] at H
                  have c58b0 : decide (x48_2 < (x397005_2.length : Int)) = true := decide_eq_true c58
                  clear c58
                  obtain ⟨y407, hy407⟩ : ∃ y_ : List Int, y_ = (x397005_2.set (x48_2 : Int).toNat (ji57)) := ⟨_, rfl⟩
                  replace H : (hinterlandref10_Bring.l0 k2 a3 ((rd_T39 l0 a1_0).f2) (((rd_T39 l0 a1_0).f2).length : Int) (wrap64 (x48_2 + 1)) a1_0 a1_1 a1_2 l1_3 l1_4 l1_5 l1_6 a1_7 a1_8 a1_9 t378 t379 t380 y405 y403 y407 x397006_2 t393 t394 t395) = some (r1, r2, r3, r4, r5, r6, r7, r8, r9, r10, r11, r12) := by first | (rw [hy407]; with_reducible exact H) | (have H2_ := (Option.bind_some _ _).symm.trans H; rw [hy407]; with_reducible exact H2_) | (have H2_ := (Option.bind_some _ _).symm.trans H; with_reducible exact H2_) | with_reducible exact H | (rw [hy407]; exact H) | exact H
                  have Ny407 := Aside0.mk hy407
                  clear hy407
                  have H' := Aside0.mk H
                  clear H
                  have p400 : 0 ≤ (x48_2 : Int) := of_decide_eq_true tW_
                  have q400 : x48_2 < (((rd_T39 l0 a1_0).f2).length : Int) := of_decide_eq_true tW_
                  obtain ⟨ad400, e400, hx400_0, hx400_1⟩ := at_T41 HR399_2.out x48_2 p400 q400
                  cases e400
                  replace hx400_0 := bc_ HB hx400_0
                  replace hx400_1 := bc_ HB hx400_1
                  replace p400 := eq_true p400
                  replace q400 := eq_true q400
                  try go_wp2_with (first | ((with_reducible refine gate_dst (N := 14) rfl ?_); refine box_event ?hg (N := 14) ?hd (cs := #[.int .i64 0, .int .i64 0]) (t := 41) ?hr ?_; (case hd => rfl); (case hg => rfl); (case hr => first | (go_simp; done) | (go_simp; rfl)); intro gb401 hg w60 hbox hb; replace HO_397003 := Aside0.mk (Kd.R_below (dR_ HO_397003) hb); replace HO_397004 := Aside0.mk (Kd.R_below (dR_ HO_397004) hb); replace HO_397005 := Aside0.mk (Kd.R_below (dR_ HO_397005) hb); replace HO_397006 := Aside0.mk (Kd.R_below (dR_ HO_397006) hb); have BK401 := Aside0.mk (hbox); have GW401 := Aside0.mk ((dS_ hg (dL3_ HB GE375 GE376 GE396) : w.heap.size ≤ gb401)); have GE401 := Aside0.mk ((dS_ hg (dL3_ HB GE375 GE376 GE396) : w.heap.size ≤ gb401)); replace HB := Aside0.mk (below_step (dL3_ HB GE375 GE376 GE396) hb); have NB375_401 := Aside0.mk ((by rw [hg]; exact Nat.ne_of_lt (blk_lt (dB_ BK375)) : gb375 ≠ gb401)); have NB401_375 := Aside0.mk ((by rw [hg]; exact Nat.ne_of_gt (blk_lt (dB_ BK375)) : gb401 ≠ gb375)); replace BK375 := Aside0.mk (blk_below (g := gb375) (o := .cells #[.int .i64 a1_0, .int .i64 a1_1, .int .i64 a1_2, .slice A1_3 l1_3.length c1_3, .slice A1_4 l1_4.length c1_4, .slice A1_5 l1_5.length c1_5, .slice A1_6 l1_6.length c1_6, .int .i64 a1_7, .int .i64 a1_8, .bool a1_9] 25 (0, 0)) (dB_ BK375) hb); have NB376_401 := Aside0.mk ((by rw [hg]; exact Nat.ne_of_lt (blk_lt (dB_ BK376)) : gb376 ≠ gb401)); have NB401_376 := Aside0.mk ((by rw [hg]; exact Nat.ne_of_gt (blk_lt (dB_ BK376)) : gb401 ≠ gb376)); replace BK376 := Aside0.mk (blk_below (g := gb376) (o := .cells #[.int .i64 0, .int .i64 0, .int .i64 0, .slice none 0 0, .slice none 0 0, .slice none 0 0, .slice none 0 0, .int .i64 0, .int .i64 0, .bool false] 25 (0, 0)) (dB_ BK376) hb); have NB396_401 := Aside0.mk ((by rw [hg]; exact Nat.ne_of_lt (blk_lt (dB_ BK396)) : gb396 ≠ gb401)); have NB401_396 := Aside0.mk ((by rw [hg]; exact Nat.ne_of_gt (blk_lt (dB_ BK396)) : gb401 ≠ gb396)); replace BK396 := Aside0.mk (blk_below (g := gb396) (o := .cells #[.int .i64 t378, .int .i64 t379, .int .i64 t380, u397003, u397004, u397005, u397006, .int .i64 t393, .int .i64 t394, .bool t395] 25 (0, 0)) (dB_ BK396) hb); clear hb hbox hg; have hnb61 := NB401_375.out; have hnc61 := NB375_401.out; have hnb62 := NB401_376.out; have hnc62 := NB376_401.out; have hnb63 := NB401_396.out; have hnc63 := NB396_401.out; obtain ⟨hcz64_0, hcz64_1, hfz64_0, hfz64_1⟩ := cs2_ BK401.out))
                  have n0_ : Aside0 (Kd.R (Kd.int .i64) 3 ((w60.setCell ⟨gb401, 0, none⟩ (.int .i64 ((rd_T41 ((rd_T39 l0 a1_0).f2) x48_2).f0))).setCell ⟨gb401, 1, none⟩ (.int .i64 ((rd_T41 ((rd_T39 l0 a1_0).f2) x48_2).f1))) w.heap.size (fun k_ => some k_ ≠ (u397004 : Value).ownBlock ∧ some k_ ≠ (u397005 : Value).ownBlock ∧ some k_ ≠ (u397006 : Value).ownBlock) u397003 x397003_2) := ⟨by (with_reducible repeat (first | apply Kd.R_alloc | apply Kd.R_drewN | apply Kd.R_drew)); exact Kd.R_mono (Kd.R_far (p := ⟨gb401, 1, none⟩) (Kd.R_far (p := ⟨gb401, 0, none⟩) (Kd.R_types HO_397003.out BK401.out (by decide)) (fun _ hk => hk.2) (.int .i64 ((rd_T41 ((rd_T39 l0 a1_0).f2) x48_2).f0))) (fun _ hk => hk.2) (.int .i64 ((rd_T41 ((rd_T39 l0 a1_0).f2) x48_2).f1))) (fun _ hk => ⟨hk.1.1, ⟨hk.1.2.1, hk.1.2.2⟩⟩)⟩
                  have n1_ : Aside0 (Kd.R (Kd.int .i64) 3 ((w60.setCell ⟨gb401, 0, none⟩ (.int .i64 ((rd_T41 ((rd_T39 l0 a1_0).f2) x48_2).f0))).setCell ⟨gb401, 1, none⟩ (.int .i64 ((rd_T41 ((rd_T39 l0 a1_0).f2) x48_2).f1))) w.heap.size (fun k_ => some k_ ≠ (u397003 : Value).ownBlock ∧ some k_ ≠ (u397005 : Value).ownBlock ∧ some k_ ≠ (u397006 : Value).ownBlock) u397004 x397004_2) := ⟨by (with_reducible repeat (first | apply Kd.R_alloc | apply Kd.R_drewN | apply Kd.R_drew)); exact Kd.R_mono (Kd.R_far (p := ⟨gb401, 1, none⟩) (Kd.R_far (p := ⟨gb401, 0, none⟩) (Kd.R_types HO_397004.out BK401.out (by decide)) (fun _ hk => hk.2) (.int .i64 ((rd_T41 ((rd_T39 l0 a1_0).f2) x48_2).f0))) (fun _ hk => hk.2) (.int .i64 ((rd_T41 ((rd_T39 l0 a1_0).f2) x48_2).f1))) (fun _ hk => ⟨hk.1.1, ⟨hk.1.2.1, hk.1.2.2⟩⟩)⟩
                  have n2_ : Aside0 (Kd.R (Kd.int .i64) 3 ((w60.setCell ⟨gb401, 0, none⟩ (.int .i64 ((rd_T41 ((rd_T39 l0 a1_0).f2) x48_2).f0))).setCell ⟨gb401, 1, none⟩ (.int .i64 ((rd_T41 ((rd_T39 l0 a1_0).f2) x48_2).f1))) w.heap.size (fun k_ => some k_ ≠ (u397003 : Value).ownBlock ∧ some k_ ≠ (u397004 : Value).ownBlock ∧ some k_ ≠ (u397006 : Value).ownBlock) u397005 x397005_2) := ⟨by (with_reducible repeat (first | apply Kd.R_alloc | apply Kd.R_drewN | apply Kd.R_drew)); exact Kd.R_mono (Kd.R_far (p := ⟨gb401, 1, none⟩) (Kd.R_far (p := ⟨gb401, 0, none⟩) (Kd.R_types HO_397005.out BK401.out (by decide)) (fun _ hk => hk.2) (.int .i64 ((rd_T41 ((rd_T39 l0 a1_0).f2) x48_2).f0))) (fun _ hk => hk.2) (.int .i64 ((rd_T41 ((rd_T39 l0 a1_0).f2) x48_2).f1))) (fun _ hk => ⟨hk.1.1, ⟨hk.1.2.1, hk.1.2.2⟩⟩)⟩
                  have n3_ : Aside0 (Kd.R (Kd.int .i64) 3 ((w60.setCell ⟨gb401, 0, none⟩ (.int .i64 ((rd_T41 ((rd_T39 l0 a1_0).f2) x48_2).f0))).setCell ⟨gb401, 1, none⟩ (.int .i64 ((rd_T41 ((rd_T39 l0 a1_0).f2) x48_2).f1))) w.heap.size (fun k_ => some k_ ≠ (u397003 : Value).ownBlock ∧ some k_ ≠ (u397004 : Value).ownBlock ∧ some k_ ≠ (u397005 : Value).ownBlock) u397006 x397006_2) := ⟨by (with_reducible repeat (first | apply Kd.R_alloc | apply Kd.R_drewN | apply Kd.R_drew)); exact Kd.R_mono (Kd.R_far (p := ⟨gb401, 1, none⟩) (Kd.R_far (p := ⟨gb401, 0, none⟩) (Kd.R_types HO_397006.out BK401.out (by decide)) (fun _ hk => hk.2) (.int .i64 ((rd_T41 ((rd_T39 l0 a1_0).f2) x48_2).f0))) (fun _ hk => hk.2) (.int .i64 ((rd_T41 ((rd_T39 l0 a1_0).f2) x48_2).f1))) (fun _ hk => ⟨hk.1.1, ⟨hk.1.2.1, hk.1.2.2⟩⟩)⟩
                  have n4_ : Aside0 (((w60.setCell ⟨gb401, 0, none⟩ (.int .i64 ((rd_T41 ((rd_T39 l0 a1_0).f2) x48_2).f0))).setCell ⟨gb401, 1, none⟩ (.int .i64 ((rd_T41 ((rd_T39 l0 a1_0).f2) x48_2).f1))).heap[gb375]? = some (.cells #[.int .i64 a1_0, .int .i64 a1_1, .int .i64 a1_2, .slice A1_3 l1_3.length c1_3, .slice A1_4 l1_4.length c1_4, .slice A1_5 l1_5.length c1_5, .slice A1_6 l1_6.length c1_6, .int .i64 a1_7, .int .i64 a1_8, .bool a1_9] 25 (0, 0))) := ⟨by (with_reducible repeat (first | refine blk_drewN ?_ _ | refine blk_drew ?_ | refine blk_alloc ?_ _)); refine blk_far ?_ NB375_401.out _; (with_reducible repeat (first | refine blk_drewN ?_ _ | refine blk_drew ?_ | refine blk_alloc ?_ _)); refine blk_far ?_ NB375_401.out _; (with_reducible repeat (first | refine blk_drewN ?_ _ | refine blk_drew ?_ | refine blk_alloc ?_ _)); exact BK375.out⟩
                  have n5_ : Aside0 (((w60.setCell ⟨gb401, 0, none⟩ (.int .i64 ((rd_T41 ((rd_T39 l0 a1_0).f2) x48_2).f0))).setCell ⟨gb401, 1, none⟩ (.int .i64 ((rd_T41 ((rd_T39 l0 a1_0).f2) x48_2).f1))).heap[gb376]? = some (.cells #[.int .i64 0, .int .i64 0, .int .i64 0, .slice none 0 0, .slice none 0 0, .slice none 0 0, .slice none 0 0, .int .i64 0, .int .i64 0, .bool false] 25 (0, 0))) := ⟨by (with_reducible repeat (first | refine blk_drewN ?_ _ | refine blk_drew ?_ | refine blk_alloc ?_ _)); refine blk_far ?_ NB376_401.out _; (with_reducible repeat (first | refine blk_drewN ?_ _ | refine blk_drew ?_ | refine blk_alloc ?_ _)); refine blk_far ?_ NB376_401.out _; (with_reducible repeat (first | refine blk_drewN ?_ _ | refine blk_drew ?_ | refine blk_alloc ?_ _)); exact BK376.out⟩
                  have n6_ : Aside0 (((w60.setCell ⟨gb401, 0, none⟩ (.int .i64 ((rd_T41 ((rd_T39 l0 a1_0).f2) x48_2).f0))).setCell ⟨gb401, 1, none⟩ (.int .i64 ((rd_T41 ((rd_T39 l0 a1_0).f2) x48_2).f1))).heap[gb396]? = some (.cells #[.int .i64 t378, .int .i64 t379, .int .i64 t380, u397003, u397004, u397005, u397006, .int .i64 t393, .int .i64 t394, .bool t395] 25 (0, 0))) := ⟨by (with_reducible repeat (first | refine blk_drewN ?_ _ | refine blk_drew ?_ | refine blk_alloc ?_ _)); refine blk_far ?_ NB396_401.out _; (with_reducible repeat (first | refine blk_drewN ?_ _ | refine blk_drew ?_ | refine blk_alloc ?_ _)); refine blk_far ?_ NB396_401.out _; (with_reducible repeat (first | refine blk_drewN ?_ _ | refine blk_drew ?_ | refine blk_alloc ?_ _)); exact BK396.out⟩
                  have n7_ : Aside0 (((w60.setCell ⟨gb401, 0, none⟩ (.int .i64 ((rd_T41 ((rd_T39 l0 a1_0).f2) x48_2).f0))).setCell ⟨gb401, 1, none⟩ (.int .i64 ((rd_T41 ((rd_T39 l0 a1_0).f2) x48_2).f1))).heap[gb401]? = some (.cells #[.int .i64 ((rd_T41 ((rd_T39 l0 a1_0).f2) x48_2).f0), .int .i64 ((rd_T41 ((rd_T39 l0 a1_0).f2) x48_2).f1)] 41 (0, 0))) := ⟨by (with_reducible repeat (first | refine blk_drewN ?_ _ | refine blk_drew ?_ | refine blk_alloc ?_ _)); refine blk_put (cs := #[.int .i64 ((rd_T41 ((rd_T39 l0 a1_0).f2) x48_2).f0), .int .i64 0]) ?_ 1 _ rfl; (with_reducible repeat (first | refine blk_drewN ?_ _ | refine blk_drew ?_ | refine blk_alloc ?_ _)); refine blk_put (cs := #[.int .i64 0, .int .i64 0]) ?_ 0 _ rfl; (with_reducible repeat (first | refine blk_drewN ?_ _ | refine blk_drew ?_ | refine blk_alloc ?_ _)); exact BK401.out⟩
                  have n8_ : Aside0 (Below w.heap.size w ((w60.setCell ⟨gb401, 0, none⟩ (.int .i64 ((rd_T41 ((rd_T39 l0 a1_0).f2) x48_2).f0))).setCell ⟨gb401, 1, none⟩ (.int .i64 ((rd_T41 ((rd_T39 l0 a1_0).f2) x48_2).f1)))) := ⟨dL4_ HB GE375 GE376 GE396 GE401⟩
                  (try clear HO_397003)
                  (try clear HO_397004)
                  (try clear HO_397005)
                  (try clear HO_397006)
                  (try clear BK375)
                  (try clear BK376)
                  (try clear BK396)
                  (try clear BK401)
                  (try clear HB)
                  generalize ((w60.setCell ⟨gb401, 0, none⟩ (.int .i64 ((rd_T41 ((rd_T39 l0 a1_0).f2) x48_2).f0))).setCell ⟨gb401, 1, none⟩ (.int .i64 ((rd_T41 ((rd_T39 l0 a1_0).f2) x48_2).f1))) = w65 at n0_ n1_ n2_ n3_ n4_ n5_ n6_ n7_ n8_ ⊢
                  have HO_397003 := n0_
                  have HO_397004 := n1_
                  have HO_397005 := n2_
                  have HO_397006 := n3_
                  have BK375 := n4_
                  have BK376 := n5_
                  have BK396 := n6_
                  have BK401 := n7_
                  have HB := n8_
                  clear n0_ n1_ n2_ n3_ n4_ n5_ n6_ n7_ n8_
                  replace HO_397003 := Aside0.mk (Kd.R_drew HO_397003.out)
                  replace HO_397004 := Aside0.mk (Kd.R_drew HO_397004.out)
                  replace HO_397005 := Aside0.mk (Kd.R_drew HO_397005.out)
                  replace HO_397006 := Aside0.mk (Kd.R_drew HO_397006.out)
                  replace BK375 := Aside0.mk (blk_drew BK375.out)
                  replace BK376 := Aside0.mk (blk_drew BK376.out)
                  replace BK396 := Aside0.mk (blk_drew BK396.out)
                  replace BK401 := Aside0.mk (blk_drew BK401.out)
                  replace HB := Aside0.mk (below_drew1 HB.out)
                  have p402 : 0 ≤ (x48_2 : Int) := of_decide_eq_true tW_
                  have q402 : x48_2 < (l1_4.length : Int) := of_decide_eq_true tW_
                  obtain ⟨ad402, e402, hx402_0⟩ := Kd.at_int HR1_4.out x48_2 p402 q402
                  have hw402_0 := hx402_0
                  cases e402
                  replace hx402_0 := bc_ HB hx402_0
                  replace p402 := eq_true p402
                  replace q402 := eq_true q402
                  refine start_ (n := 11) (S := fun w' => w'.cell? ⟨gb375, 0, none⟩ = some (.int .i64 a1_0) ∧ w'.cell? ⟨gb375, 1, none⟩ = some (.int .i64 a1_1) ∧ w'.cell? ⟨gb375, 2, none⟩ = some (.int .i64 a1_2) ∧ w'.cell? ⟨gb375, 3, none⟩ = some (.slice A1_3 l1_3.length c1_3) ∧ w'.cell? ⟨gb375, 4, none⟩ = some (.slice (some ad402) l1_4.length c1_4) ∧ w'.cell? ⟨gb375, 5, none⟩ = some (.slice A1_5 l1_5.length c1_5) ∧ w'.cell? ⟨gb375, 6, none⟩ = some (.slice A1_6 l1_6.length c1_6) ∧ w'.cell? ⟨gb375, 7, none⟩ = some (.int .i64 a1_7) ∧ w'.cell? ⟨gb375, 8, none⟩ = some (.int .i64 a1_8) ∧ w'.cell? ⟨gb375, 9, none⟩ = some (.bool a1_9) ∧ w'.cell? ⟨gb401, 0, none⟩ = some (.int .i64 ((rd_T41 ((rd_T39 l0 a1_0).f2) x48_2).f0)) ∧ w'.cell? ⟨gb401, 1, none⟩ = some (.int .i64 ((rd_T41 ((rd_T39 l0 a1_0).f2) x48_2).f1)) ∧ w'.cell? (ad402.add (x48_2).toNat) = some (.int .i64 (rd l1_4 x48_2))) (ds := []) #[false, false, false, false, false, false, false, false, false, false, false] (by kernel_rfl) rfl rfl ⟨(blk_cell BK375.out 0).trans rfl, (blk_cell BK375.out 1).trans rfl, (blk_cell BK375.out 2).trans rfl, (blk_cell BK375.out 3).trans rfl, (blk_cell BK375.out 4).trans rfl, (blk_cell BK375.out 5).trans rfl, (blk_cell BK375.out 6).trans rfl, (blk_cell BK375.out 7).trans rfl, (blk_cell BK375.out 8).trans rfl, (blk_cell BK375.out 9).trans rfl, (blk_cell BK401.out 0).trans rfl, (blk_cell BK401.out 1).trans rfl, ((HB.out.cell (World.block_lt_of_cell? w _ hw402_0)).trans hw402_0)⟩ (fun hHeld => ?_); refine with_tabW hinterlandref10_Bring.tab10 hinterlandref10_Bring.bits10 (fun HT_ HW_ => ?_)
                  generalize w65.drew = w66 at HO_397003 HO_397004 HO_397005 HO_397006 BK375 BK376 BK396 BK401 HB hx402_0 hHeld ⊢
                  refine pure_ (i := 0) (N := some 53) (v := ?_) (a' := ?_) #[true, false, false, false, false, false, false, false, false, false, false] rfl rfl (any_of HT_.out (by kernel_rfl)) (fun _ _ _ h => h) (Or.inl ⟨by rfl, ?_⟩) ?_ ?_
                  rotate_left
                  ·intro w'
                   go_simp
                   with_reducible rfl
                  rotate_left
                  ·simp only [Act.put, sI_, s0_, sS_, i64_w, i32_w]
                   rfl
                  refine pure_ (i := 2) (N := some 55) (v := ?_) (a' := ?_) #[true, false, true, false, false, false, false, false, false, false, false] rfl rfl (any_of HT_.out (by kernel_rfl)) (fun _ _ _ h => h) (Or.inl ⟨by rfl, ?_⟩) ?_ ?_
                  rotate_left
                  ·intro w'
                   go_simp
                   with_reducible rfl
                  rotate_left
                  ·simp only [Act.put, sI_, s0_, sS_, i64_w, i32_w]
                   rfl
                  refine pure_ (i := 5) (N := some 58) (v := ?_) (a' := ?_) #[true, false, true, false, false, true, false, false, false, false, false] rfl rfl (any_of HT_.out (by kernel_rfl)) (fun _ _ _ h => h) (Or.inl ⟨by rfl, ?_⟩) ?_ ?_
                  rotate_left
                  ·intro w'
                   go_simp
                   with_reducible rfl
                  rotate_left
                  ·simp only [Act.put, sI_, s0_, sS_, i64_w, i32_w]
                   rfl
                  refine pure_ (i := 6) (N := some 59) (v := ?_) (a' := ?_) #[true, false, true, false, false, true, true, false, false, false, false] rfl rfl (any_of HT_.out (by kernel_rfl)) (fun _ _ _ h => h) (Or.inl ⟨by rfl, ?_⟩) ?_ ?_
                  rotate_left
                  ·intro w'
                   go_simp
                   with_reducible rfl
                  rotate_left
                  ·simp only [Act.put, sI_, s0_, sS_, i64_w, i32_w]
                   rfl
                  refine take_ (i := 1) (N := some 54) (v := ?_) (a' := ?_) #[true, true, true, false, false, true, true, false, false, false, false] rfl rfl (take_ofW HT_.out HW_.out (by kernel_rfl)) (fun _ _ _ h => h) (Or.inl ⟨by rfl, ?_⟩) hHeld ?_ ?_
                  rotate_left
                  ·rintro w' ⟨s0, s1, s2, s3, s4, s5, s6, s7, s8, s9, s10, s11, s12⟩
                   go_simp
                   with_reducible rfl
                  rotate_left
                  ·simp only [Act.put, sI_, s0_, sS_, i64_w, i32_w]
                   rfl
                  refine pure_ (i := 3) (N := some 56) (v := ?_) (a' := ?_) #[true, true, true, true, false, true, true, false, false, false, false] rfl rfl (any_of HT_.out (by kernel_rfl)) (fun _ _ _ h => h) (Or.inl ⟨by rfl, ?_⟩) ?_ ?_
                  rotate_left
                  ·intro w'
                   go_simp
                   with_reducible rfl
                  rotate_left
                  ·simp only [Act.put, sI_, s0_, sS_, i64_w, i32_w]
                   rfl
                  refine take_ (i := 4) (N := some 57) (v := ?_) (a' := ?_) #[true, true, true, true, true, true, true, false, false, false, false] rfl rfl (take_ofW HT_.out HW_.out (by kernel_rfl)) (fun _ _ _ h => h) (Or.inl ⟨by rfl, ?_⟩) hHeld ?_ ?_
                  rotate_left
                  ·rintro w' ⟨s0, s1, s2, s3, s4, s5, s6, s7, s8, s9, s10, s11, s12⟩
                   go_simp
                   with_reducible rfl
                  rotate_left
                  ·simp only [Act.put, sI_, s0_, sS_, i64_w, i32_w]
                   rfl
                  refine take_ (i := 7) (N := some 60) (v := ?_) (a' := ?_) #[true, true, true, true, true, true, true, true, false, false, false] rfl rfl (take_ofW HT_.out HW_.out (by kernel_rfl)) (fun _ _ _ h => h) (Or.inl ⟨by rfl, ?_⟩) hHeld ?_ ?_
                  rotate_left
                  ·rintro w' ⟨s0, s1, s2, s3, s4, s5, s6, s7, s8, s9, s10, s11, s12⟩
                   go_simp
                   with_reducible rfl
                  rotate_left
                  ·simp only [Act.put, sI_, s0_, sS_, i64_w, i32_w]
                   rfl
                  refine pure_ (i := 8) (N := some 61) (v := ?_) (a' := ?_) #[true, true, true, true, true, true, true, true, true, false, false] rfl rfl (any_of HT_.out (by kernel_rfl)) (fun _ _ _ h => h) (Or.inl ⟨by rfl, ?_⟩) ?_ ?_
                  rotate_left
                  ·intro w'
                   go_simp
                   with_reducible rfl
                  rotate_left
                  ·simp only [Act.put, sI_, s0_, sS_, i64_w, i32_w]
                   rfl
                  refine pure_ (i := 9) (N := some 62) (v := ?_) (a' := ?_) #[true, true, true, true, true, true, true, true, true, true, false] rfl rfl (any_of HT_.out (by kernel_rfl)) (fun _ _ _ h => h) (Or.inl ⟨by rfl, ?_⟩) ?_ ?_
                  rotate_left
                  ·intro w'
                   go_simp
                   with_reducible rfl
                  rotate_left
                  ·simp only [Act.put, sI_, s0_, sS_, i64_w, i32_w]
                   rfl
                  refine pure_ (i := 10) (N := some 15) (v := ?_) (a' := ?_) #[true, true, true, true, true, true, true, true, true, true, true] rfl rfl (any_of HT_.out (by kernel_rfl)) (fun _ _ _ h => h) (Or.inl ⟨by rfl, ?_⟩) ?_ ?_
                  rotate_left
                  ·intro w'
                   go_simp
                   with_reducible rfl
                  rotate_left
                  ·simp only [Act.put, sI_, s0_, sS_, i64_w, i32_w]
                   rfl
                  refine done_ (done_of HT_.out (by kernel_rfl)) ?_
                  have hnb67 := NB396_375.out
                  have hnc67 := NB375_396.out
                  have hnb68 := NB396_376.out
                  have hnc68 := NB376_396.out
                  obtain ⟨hcz69_0, hcz69_1, hcz69_2, hcz69_3, hcz69_4, hcz69_5, hcz69_6, hcz69_7, hcz69_8, hcz69_9, hfz69_0, hfz69_1, hfz69_2, hfz69_3, hfz69_4, hfz69_5, hfz69_6, hfz69_7, hfz69_8, hfz69_9⟩ := cs10_ BK396.out
                  have p51 : 0 ≤ (x48_2 : Int) := of_decide_eq_true tW_
                  have q51 : (x48_2 : Int) < ((x397004_2.length : Int) : Int) := of_decide_eq_true tW_
                  obtain ⟨go51, co51, eo51, gb51, gl51, cl51, HG51⟩ := Kd.R_form HO_397004.out (by omega)
                  (first | cases eo51 | (injection eo51 with ea_ en_ ec_; (first | subst ea_ | (injection ea_ with ea_; subst ea_)); subst ec_; clear en_))
                  have GB51 := Aside0.mk gb51
                  have GG51 := Aside0.mk HG51
                  clear gb51 gl51 HG51
                  obtain ⟨hx51_0, hf51_0⟩ := Kd.R_celln 0 HO_397004.out (x48_2 : Int) p51 q51
                  replace p51 := eq_true p51
                  replace q51 := eq_true q51
                  obtain ⟨hy70_, hz70_⟩ := Kd.R_celln 0 HO_397004.out (x48_2 : Int) (of_decide_eq_true tW_) (of_decide_eq_true tW_)
                  have HP70 := Kd.R_putg HO_397004.out (x48_2 : Int) (Int.tmod (wrap64 ((rd l1_4 x48_2) + (wrap64 (a3 * ((rd_T41 ((rd_T39 l0 a1_0).f2) x48_2).f1))))) 8)
                  try go_wp2_with (first | ((with_reducible refine gate_store (t := 3) (p := 68) rfl ?_); refine store_event (t := 3) (p := 68) (v := ?vo_w71) (w1 := (w66.setCell ⟨go51, (x48_2 : Int).toNat, none⟩ (.int .i64 (Int.tmod (wrap64 ((rd l1_4 x48_2) + (wrap64 (a3 * ((rd_T41 ((rd_T39 l0 a1_0).f2) x48_2).f1))))) 8)))) ?hg ?ho ?hn ?hr ?_; (case ho => rfl); (case hg => rfl); (case hn => rfl); (case hr => first | (go_simp; done) | (go_simp; rfl)); intro w71 hw; have hg : w66.grownBy w71 (some go51) := (by rw [hw]; exact HP70.2); have hp_ : Kd.R (Kd.int .i64) 3 w71 w.heap.size (fun k_ => some k_ ≠ (u397003 : Value).ownBlock ∧ some k_ ≠ (u397005 : Value).ownBlock ∧ some k_ ≠ (u397006 : Value).ownBlock) (.slice (some ⟨go51, 0, none⟩) x397004_2.length co51) y403 := (by rw [hw, Ny403.out]; exact HP70.1); clear HP70; replace HO_397003 := Aside0.mk (Kd.R_after (v := (.slice (some ⟨go51, 0, none⟩) x397004_2.length co51)) (v1 := (.slice (some ⟨go51, 0, none⟩) x397004_2.length co51)) (ok := (fun k_ => some k_ ≠ (u397005 : Value).ownBlock ∧ some k_ ≠ (u397006 : Value).ownBlock)) (by (with_reducible repeat (first | apply Kd.R_alloc | apply Kd.R_drewN | apply Kd.R_drew)); exact Kd.R_mono HO_397003.out (fun _ hk => ⟨⟨hk.2.1, hk.2.2⟩, hk.1⟩)) hg (.inl rfl)); replace HO_397005 := Aside0.mk (Kd.R_after (v := (.slice (some ⟨go51, 0, none⟩) x397004_2.length co51)) (v1 := (.slice (some ⟨go51, 0, none⟩) x397004_2.length co51)) (ok := (fun k_ => some k_ ≠ (u397003 : Value).ownBlock ∧ some k_ ≠ (u397006 : Value).ownBlock)) (by (with_reducible repeat (first | apply Kd.R_alloc | apply Kd.R_drewN | apply Kd.R_drew)); exact Kd.R_mono HO_397005.out (fun _ hk => ⟨⟨hk.1, hk.2.2⟩, hk.2.1⟩)) hg (.inl rfl)); replace HO_397006 := Aside0.mk (Kd.R_after (v := (.slice (some ⟨go51, 0, none⟩) x397004_2.length co51)) (v1 := (.slice (some ⟨go51, 0, none⟩) x397004_2.length co51)) (ok := (fun k_ => some k_ ≠ (u397003 : Value).ownBlock ∧ some k_ ≠ (u397005 : Value).ownBlock)) (by (with_reducible repeat (first | apply Kd.R_alloc | apply Kd.R_drewN | apply Kd.R_drew)); exact Kd.R_mono HO_397006.out (fun _ hk => ⟨⟨hk.1, hk.2.2⟩, hk.2.1⟩)) hg (.inl rfl)); replace BK375 := Aside0.mk (blk_grown (g := gb375) (o := .cells #[.int .i64 a1_0, .int .i64 a1_1, .int .i64 a1_2, .slice A1_3 l1_3.length c1_3, .slice (some ad402) l1_4.length c1_4, .slice A1_5 l1_5.length c1_5, .slice A1_6 l1_6.length c1_6, .int .i64 a1_7, .int .i64 a1_8, .bool a1_9] 25 (0, 0)) (dB_ BK375) hg (Kd.R_ne HO_397004.out BK375.out (by decide))); replace BK376 := Aside0.mk (blk_grown (g := gb376) (o := .cells #[.int .i64 0, .int .i64 0, .int .i64 0, .slice none 0 0, .slice none 0 0, .slice none 0 0, .slice none 0 0, .int .i64 0, .int .i64 0, .bool false] 25 (0, 0)) (dB_ BK376) hg (Kd.R_ne HO_397004.out BK376.out (by decide))); replace BK396 := Aside0.mk (blk_grown (g := gb396) (o := .cells #[.int .i64 t378, .int .i64 t379, .int .i64 t380, u397003, .slice (some ⟨go51, 0, none⟩) x397004_2.length co51, u397005, u397006, .int .i64 t393, .int .i64 t394, .bool t395] 25 (0, 0)) (dB_ BK396) hg (Kd.R_ne HO_397004.out BK396.out (by decide))); replace BK401 := Aside0.mk (blk_grown (g := gb401) (o := .cells #[.int .i64 ((rd_T41 ((rd_T39 l0 a1_0).f2) x48_2).f0), .int .i64 ((rd_T41 ((rd_T39 l0 a1_0).f2) x48_2).f1)] 41 (0, 0)) (dB_ BK401) hg (Kd.R_ne HO_397004.out BK401.out (by decide))); replace HO_397004 := Aside0.mk (hp_); replace HB := Aside0.mk ((by rw [hw]; exact below_set (HB.out) GB51.out : Below w.heap.size w w71)); clear hg hw hp_))
                  replace HO_397003 := Aside0.mk (Kd.R_drew HO_397003.out)
                  replace HO_397004 := Aside0.mk (Kd.R_drew HO_397004.out)
                  replace HO_397005 := Aside0.mk (Kd.R_drew HO_397005.out)
                  replace HO_397006 := Aside0.mk (Kd.R_drew HO_397006.out)
                  replace BK375 := Aside0.mk (blk_drew BK375.out)
                  replace BK376 := Aside0.mk (blk_drew BK376.out)
                  replace BK396 := Aside0.mk (blk_drew BK396.out)
                  replace BK401 := Aside0.mk (blk_drew BK401.out)
                  replace HB := Aside0.mk (below_drew1 HB.out)
                  have p404 : 0 ≤ (x48_2 : Int) := of_decide_eq_true tW_
                  have q404 : x48_2 < (l1_3.length : Int) := of_decide_eq_true tW_
                  obtain ⟨ad404, e404, hx404_0⟩ := Kd.at_int HR1_3.out x48_2 p404 q404
                  have hw404_0 := hx404_0
                  cases e404
                  replace hx404_0 := bc_ HB hx404_0
                  replace p404 := eq_true p404
                  replace q404 := eq_true q404
                  have p55 : 0 ≤ (x48_2 : Int) := of_decide_eq_true tW_
                  have q55 : (x48_2 : Int) < ((x397003_2.length : Int) : Int) := of_decide_eq_true tW_
                  obtain ⟨go55, co55, eo55, gb55, gl55, cl55, HG55⟩ := Kd.R_form HO_397003.out (by omega)
                  (first | cases eo55 | (injection eo55 with ea_ en_ ec_; (first | subst ea_ | (injection ea_ with ea_; subst ea_)); subst ec_; clear en_))
                  have GB55 := Aside0.mk gb55
                  have GG55 := Aside0.mk HG55
                  clear gb55 gl55 HG55
                  obtain ⟨hx55_0, hf55_0⟩ := Kd.R_celln 0 HO_397003.out (x48_2 : Int) p55 q55
                  replace p55 := eq_true p55
                  replace q55 := eq_true q55
                  have HP73 := Kd.R_putn HO_397003.out (x48_2 : Int) ji53
                  rw [← Ny405.out] at HP73
                  have HQ73 := Aside0.mk HP73
                  clear HP73
                  refine start_ (n := 14) (S := fun w' => w'.cell? ⟨gb396, 0, none⟩ = some (.int .i64 t378) ∧ w'.cell? ⟨gb396, 1, none⟩ = some (.int .i64 t379) ∧ w'.cell? ⟨gb396, 2, none⟩ = some (.int .i64 t380) ∧ w'.cell? ⟨gb396, 3, none⟩ = some (.slice (some ⟨go55, 0, none⟩) x397003_2.length co55) ∧ w'.cell? ⟨gb396, 4, none⟩ = some (.slice (some ⟨go51, 0, none⟩) x397004_2.length co51) ∧ w'.cell? ⟨gb396, 5, none⟩ = some (u397005) ∧ w'.cell? ⟨gb396, 6, none⟩ = some (u397006) ∧ w'.cell? ⟨gb396, 7, none⟩ = some (.int .i64 t393) ∧ w'.cell? ⟨gb396, 8, none⟩ = some (.int .i64 t394) ∧ w'.cell? ⟨gb396, 9, none⟩ = some (.bool t395) ∧ w'.cell? ⟨gb375, 0, none⟩ = some (.int .i64 a1_0) ∧ w'.cell? ⟨gb375, 1, none⟩ = some (.int .i64 a1_1) ∧ w'.cell? ⟨gb375, 2, none⟩ = some (.int .i64 a1_2) ∧ w'.cell? ⟨gb375, 3, none⟩ = some (.slice (some ad404) l1_3.length c1_3) ∧ w'.cell? ⟨gb375, 4, none⟩ = some (.slice (some ad402) l1_4.length c1_4) ∧ w'.cell? ⟨gb375, 5, none⟩ = some (.slice A1_5 l1_5.length c1_5) ∧ w'.cell? ⟨gb375, 6, none⟩ = some (.slice A1_6 l1_6.length c1_6) ∧ w'.cell? ⟨gb375, 7, none⟩ = some (.int .i64 a1_7) ∧ w'.cell? ⟨gb375, 8, none⟩ = some (.int .i64 a1_8) ∧ w'.cell? ⟨gb375, 9, none⟩ = some (.bool a1_9) ∧ w'.cell? (ad404.add (x48_2).toNat) = some (.int .i64 (rd l1_3 x48_2))) (ds := [13]) #[false, false, false, false, false, false, false, false, false, false, false, false, false, false] (by kernel_rfl) rfl rfl ⟨(blk_cell BK396.out 0).trans rfl, (blk_cell BK396.out 1).trans rfl, (blk_cell BK396.out 2).trans rfl, (blk_cell BK396.out 3).trans rfl, (blk_cell BK396.out 4).trans rfl, (blk_cell BK396.out 5).trans rfl, (blk_cell BK396.out 6).trans rfl, (blk_cell BK396.out 7).trans rfl, (blk_cell BK396.out 8).trans rfl, (blk_cell BK396.out 9).trans rfl, (blk_cell BK375.out 0).trans rfl, (blk_cell BK375.out 1).trans rfl, (blk_cell BK375.out 2).trans rfl, (blk_cell BK375.out 3).trans rfl, (blk_cell BK375.out 4).trans rfl, (blk_cell BK375.out 5).trans rfl, (blk_cell BK375.out 6).trans rfl, (blk_cell BK375.out 7).trans rfl, (blk_cell BK375.out 8).trans rfl, (blk_cell BK375.out 9).trans rfl, ((HB.out.cell (World.block_lt_of_cell? w _ hw404_0)).trans hw404_0)⟩ (fun hHeld => ?_); refine with_tabW hinterlandref10_Bring.tab12 hinterlandref10_Bring.bits12 (fun HT_ HW_ => ?_)
                  generalize w71.drew = w72 at HO_397003 HO_397004 HO_397005 HO_397006 BK375 BK376 BK396 BK401 HB GG55 HQ73 hf55_0 hx404_0 hx55_0 hHeld ⊢
                  refine pure_ (i := 0) (N := some 69) (v := ?_) (a' := ?_) #[true, false, false, false, false, false, false, false, false, false, false, false, false, false] rfl rfl (any_of HT_.out (by kernel_rfl)) (fun _ _ _ h => h) (Or.inl ⟨by rfl, ?_⟩) ?_ ?_
                  rotate_left
                  ·intro w'
                   go_simp
                   with_reducible rfl
                  rotate_left
                  ·simp only [Act.put, sI_, s0_, sS_, i64_w, i32_w]
                   rfl
                  refine pure_ (i := 2) (N := some 71) (v := ?_) (a' := ?_) #[true, false, true, false, false, false, false, false, false, false, false, false, false, false] rfl rfl (any_of HT_.out (by kernel_rfl)) (fun _ _ _ h => h) (Or.inl ⟨by rfl, ?_⟩) ?_ ?_
                  rotate_left
                  ·intro w'
                   go_simp
                   with_reducible rfl
                  rotate_left
                  ·simp only [Act.put, sI_, s0_, sS_, i64_w, i32_w]
                   rfl
                  refine pure_ (i := 3) (N := some 72) (v := ?_) (a' := ?_) #[true, false, true, true, false, false, false, false, false, false, false, false, false, false] rfl rfl (any_of HT_.out (by kernel_rfl)) (fun _ _ _ h => h) (Or.inl ⟨by rfl, ?_⟩) ?_ ?_
                  rotate_left
                  ·intro w'
                   go_simp
                   with_reducible rfl
                  rotate_left
                  ·simp only [Act.put, sI_, s0_, sS_, i64_w, i32_w]
                   rfl
                  refine pure_ (i := 5) (N := some 74) (v := ?_) (a' := ?_) #[true, false, true, true, false, true, false, false, false, false, false, false, false, false] rfl rfl (any_of HT_.out (by kernel_rfl)) (fun _ _ _ h => h) (Or.inl ⟨by rfl, ?_⟩) ?_ ?_
                  rotate_left
                  ·intro w'
                   go_simp
                   with_reducible rfl
                  rotate_left
                  ·simp only [Act.put, sI_, s0_, sS_, i64_w, i32_w]
                   rfl
                  refine pure_ (i := 8) (N := some 77) (v := ?_) (a' := ?_) #[true, false, true, true, false, true, false, false, true, false, false, false, false, false] rfl rfl (any_of HT_.out (by kernel_rfl)) (fun _ _ _ h => h) (Or.inl ⟨by rfl, ?_⟩) ?_ ?_
                  rotate_left
                  ·intro w'
                   go_simp
                   with_reducible rfl
                  rotate_left
                  ·simp only [Act.put, sI_, s0_, sS_, i64_w, i32_w]
                   rfl
                  refine pure_ (i := 9) (N := some 78) (v := ?_) (a' := ?_) #[true, false, true, true, false, true, false, false, true, true, false, false, false, false] rfl rfl (any_of HT_.out (by kernel_rfl)) (fun _ _ _ h => h) (Or.inl ⟨by rfl, ?_⟩) ?_ ?_
                  rotate_left
                  ·intro w'
                   go_simp
                   with_reducible rfl
                  rotate_left
                  ·simp only [Act.put, sI_, s0_, sS_, i64_w, i32_w]
                   rfl
                  refine take_ (i := 1) (N := some 70) (v := ?_) (a' := ?_) #[true, true, true, true, false, true, false, false, true, true, false, false, false, false] rfl rfl (take_ofW HT_.out HW_.out (by kernel_rfl)) (fun _ _ _ h => h) (Or.inl ⟨by rfl, ?_⟩) hHeld ?_ ?_
                  rotate_left
                  ·rintro w' ⟨s0, s1, s2, s3, s4, s5, s6, s7, s8, s9, s10, s11, s12, s13, s14, s15, s16, s17, s18, s19, s20⟩
                   go_simp
                   with_reducible rfl
                  rotate_left
                  ·simp only [Act.put, sI_, s0_, sS_, i64_w, i32_w]
                   rfl
                  refine take_ (i := 4) (N := some 73) (v := ?_) (a' := ?_) #[true, true, true, true, true, true, false, false, true, true, false, false, false, false] rfl rfl (take_ofW HT_.out HW_.out (by kernel_rfl)) (fun _ _ _ h => h) (Or.inl ⟨by rfl, ?_⟩) hHeld ?_ ?_
                  rotate_left
                  ·rintro w' ⟨s0, s1, s2, s3, s4, s5, s6, s7, s8, s9, s10, s11, s12, s13, s14, s15, s16, s17, s18, s19, s20⟩
                   go_simp
                   with_reducible rfl
                  rotate_left
                  ·simp only [Act.put, sI_, s0_, sS_, i64_w, i32_w]
                   rfl
                  refine pure_ (i := 6) (N := some 75) (v := ?_) (a' := ?_) #[true, true, true, true, true, true, true, false, true, true, false, false, false, false] rfl rfl (any_of HT_.out (by kernel_rfl)) (fun _ _ _ h => h) (Or.inl ⟨by rfl, ?_⟩) ?_ ?_
                  rotate_left
                  ·intro w'
                   go_simp
                   with_reducible rfl
                  rotate_left
                  ·simp only [Act.put, sI_, s0_, sS_, i64_w, i32_w]
                   rfl
                  refine take_ (i := 7) (N := some 76) (v := ?_) (a' := ?_) #[true, true, true, true, true, true, true, true, true, true, false, false, false, false] rfl rfl (take_ofW HT_.out HW_.out (by kernel_rfl)) (fun _ _ _ h => h) (Or.inl ⟨by rfl, ?_⟩) hHeld ?_ ?_
                  rotate_left
                  ·rintro w' ⟨s0, s1, s2, s3, s4, s5, s6, s7, s8, s9, s10, s11, s12, s13, s14, s15, s16, s17, s18, s19, s20⟩
                   go_simp
                   with_reducible rfl
                  rotate_left
                  ·simp only [Act.put, sI_, s0_, sS_, i64_w, i32_w]
                   rfl
                  refine pure_ (i := 10) (N := some 79) (v := ?_) (a' := ?_) #[true, true, true, true, true, true, true, true, true, true, true, false, false, false] rfl rfl (any_of HT_.out (by kernel_rfl)) (fun _ _ _ h => h) (Or.inl ⟨by rfl, ?_⟩) ?_ ?_
                  rotate_left
                  ·intro w'
                   go_simp
                   with_reducible rfl
                  rotate_left
                  ·simp only [Act.put, sI_, s0_, sS_, i64_w, i32_w]
                   rfl
                  refine pure_ (i := 11) (N := some 80) (v := ?_) (a' := ?_) #[true, true, true, true, true, true, true, true, true, true, true, true, false, false] rfl rfl (any_of HT_.out (by kernel_rfl)) (fun _ _ _ h => h) (Or.inl ⟨by rfl, ?_⟩) ?_ ?_
                  rotate_left
                  ·intro w'
                   go_simp
                   with_reducible rfl
                  rotate_left
                  ·simp only [Act.put, sI_, s0_, sS_, i64_w, i32_w]
                   rfl
                  refine pure_ (i := 12) (N := some 81) (v := ?_) (a' := ?_) #[true, true, true, true, true, true, true, true, true, true, true, true, true, false] rfl rfl (any_of HT_.out (by kernel_rfl)) (fun _ _ _ h => h) (Or.inl ⟨by rfl, ?_⟩) ?_ ?_
                  rotate_left
                  ·intro w'
                   go_simp
                   with_reducible rfl
                  rotate_left
                  ·simp only [Act.put, sI_, s0_, sS_, i64_w, i32_w]
                   rfl
                  refine last_ (i := 13) (N := none) #[true, true, true, true, true, true, true, true, true, true, true, true, true, true] rfl rfl (one_of HT_.out (by kernel_rfl)) (by decide) (fun K hK => ?_)
                  refine skip_ (w1 := ?_) (by rfl) rfl ?_ ?_
                  rotate_left
                  ·go_simp
                   rfl
                  refine hK.out _ _ ?_
                  clear hK K
                  refine done_ (done_of HT_.out (by kernel_rfl)) ?_
                  try go_wp2
                  have n0_ : Aside0 (Kd.R (Kd.int .i64) 3 (w72.setCell ⟨go55, (x48_2 : Int).toNat, none⟩ (.int .i64 ji53)) w.heap.size (fun k_ => some k_ ≠ (.slice (some ⟨go51, 0, none⟩) x397004_2.length co51 : Value).ownBlock ∧ some k_ ≠ (u397005 : Value).ownBlock ∧ some k_ ≠ (u397006 : Value).ownBlock) (.slice (some ⟨go55, 0, none⟩) x397003_2.length co55) y405) := ⟨by (with_reducible repeat (first | apply Kd.R_alloc | apply Kd.R_drewN | apply Kd.R_drew)); exact Kd.R_mono HQ73.out (fun _ hk => ⟨hk.2, ⟨hk.1.1, hk.1.2⟩⟩)⟩
                  have n1_ : Aside0 (Kd.R (Kd.int .i64) 3 (w72.setCell ⟨go55, (x48_2 : Int).toNat, none⟩ (.int .i64 ji53)) w.heap.size (fun k_ => some k_ ≠ (.slice (some ⟨go55, 0, none⟩) x397003_2.length co55 : Value).ownBlock ∧ some k_ ≠ (u397005 : Value).ownBlock ∧ some k_ ≠ (u397006 : Value).ownBlock) (.slice (some ⟨go51, 0, none⟩) x397004_2.length co51) y403) := ⟨by (with_reducible repeat (first | apply Kd.R_alloc | apply Kd.R_drewN | apply Kd.R_drew)); exact Kd.R_mono (Kd.R_far (p := ⟨go55, (x48_2 : Int).toNat, none⟩) (Kd.R_mono HO_397004.out (fun k_ hk => (⟨hk, fun e_ => hk.1 (by rw [e_]; rfl)⟩ : _ ∧ k_ ≠ go55))) (fun _ hk => hk.2) (.int .i64 ji53)) (fun _ hk => ⟨hk.1.1, ⟨hk.1.2.1, hk.1.2.2⟩⟩)⟩
                  have n2_ : Aside0 (Kd.R (Kd.int .i64) 3 (w72.setCell ⟨go55, (x48_2 : Int).toNat, none⟩ (.int .i64 ji53)) w.heap.size (fun k_ => some k_ ≠ (.slice (some ⟨go55, 0, none⟩) x397003_2.length co55 : Value).ownBlock ∧ some k_ ≠ (.slice (some ⟨go51, 0, none⟩) x397004_2.length co51 : Value).ownBlock ∧ some k_ ≠ (u397006 : Value).ownBlock) u397005 x397005_2) := ⟨by (with_reducible repeat (first | apply Kd.R_alloc | apply Kd.R_drewN | apply Kd.R_drew)); exact Kd.R_mono (Kd.R_far (p := ⟨go55, (x48_2 : Int).toNat, none⟩) (Kd.R_mono HO_397005.out (fun k_ hk => (⟨hk, fun e_ => hk.1.1 (by rw [e_]; rfl)⟩ : _ ∧ k_ ≠ go55))) (fun _ hk => hk.2) (.int .i64 ji53)) (fun _ hk => ⟨hk.1.1.1, ⟨hk.1.2, hk.1.1.2⟩⟩)⟩
                  have n3_ : Aside0 (Kd.R (Kd.int .i64) 3 (w72.setCell ⟨go55, (x48_2 : Int).toNat, none⟩ (.int .i64 ji53)) w.heap.size (fun k_ => some k_ ≠ (.slice (some ⟨go55, 0, none⟩) x397003_2.length co55 : Value).ownBlock ∧ some k_ ≠ (.slice (some ⟨go51, 0, none⟩) x397004_2.length co51 : Value).ownBlock ∧ some k_ ≠ (u397005 : Value).ownBlock) u397006 x397006_2) := ⟨by (with_reducible repeat (first | apply Kd.R_alloc | apply Kd.R_drewN | apply Kd.R_drew)); exact Kd.R_mono (Kd.R_far (p := ⟨go55, (x48_2 : Int).toNat, none⟩) (Kd.R_mono HO_397006.out (fun k_ hk => (⟨hk, fun e_ => hk.1.1 (by rw [e_]; rfl)⟩ : _ ∧ k_ ≠ go55))) (fun _ hk => hk.2) (.int .i64 ji53)) (fun _ hk => ⟨hk.1.1.1, ⟨hk.1.2, hk.1.1.2⟩⟩)⟩
                  have n4_ : Aside0 ((w72.setCell ⟨go55, (x48_2 : Int).toNat, none⟩ (.int .i64 ji53)).heap[gb375]? = some (.cells #[.int .i64 a1_0, .int .i64 a1_1, .int .i64 a1_2, .slice (some ad404) l1_3.length c1_3, .slice (some ad402) l1_4.length c1_4, .slice A1_5 l1_5.length c1_5, .slice A1_6 l1_6.length c1_6, .int .i64 a1_7, .int .i64 a1_8, .bool a1_9] 25 (0, 0))) := ⟨by (with_reducible repeat (first | refine blk_drewN ?_ _ | refine blk_drew ?_ | refine blk_alloc ?_ _)); refine blk_far ?_ (by have h_ := Kd.R_ne HO_397003.out BK375.out (by decide); intro e_; exact h_ (by rw [e_]; rfl)) _; (with_reducible repeat (first | refine blk_drewN ?_ _ | refine blk_drew ?_ | refine blk_alloc ?_ _)); exact BK375.out⟩
                  have n5_ : Aside0 ((w72.setCell ⟨go55, (x48_2 : Int).toNat, none⟩ (.int .i64 ji53)).heap[gb376]? = some (.cells #[.int .i64 0, .int .i64 0, .int .i64 0, .slice none 0 0, .slice none 0 0, .slice none 0 0, .slice none 0 0, .int .i64 0, .int .i64 0, .bool false] 25 (0, 0))) := ⟨by (with_reducible repeat (first | refine blk_drewN ?_ _ | refine blk_drew ?_ | refine blk_alloc ?_ _)); refine blk_far ?_ (by have h_ := Kd.R_ne HO_397003.out BK376.out (by decide); intro e_; exact h_ (by rw [e_]; rfl)) _; (with_reducible repeat (first | refine blk_drewN ?_ _ | refine blk_drew ?_ | refine blk_alloc ?_ _)); exact BK376.out⟩
                  have n6_ : Aside0 ((w72.setCell ⟨go55, (x48_2 : Int).toNat, none⟩ (.int .i64 ji53)).heap[gb396]? = some (.cells #[.int .i64 t378, .int .i64 t379, .int .i64 t380, .slice (some ⟨go55, 0, none⟩) x397003_2.length co55, .slice (some ⟨go51, 0, none⟩) x397004_2.length co51, u397005, u397006, .int .i64 t393, .int .i64 t394, .bool t395] 25 (0, 0))) := ⟨by (with_reducible repeat (first | refine blk_drewN ?_ _ | refine blk_drew ?_ | refine blk_alloc ?_ _)); refine blk_far ?_ (by have h_ := Kd.R_ne HO_397003.out BK396.out (by decide); intro e_; exact h_ (by rw [e_]; rfl)) _; (with_reducible repeat (first | refine blk_drewN ?_ _ | refine blk_drew ?_ | refine blk_alloc ?_ _)); exact BK396.out⟩
                  have n7_ : Aside0 ((w72.setCell ⟨go55, (x48_2 : Int).toNat, none⟩ (.int .i64 ji53)).heap[gb401]? = some (.cells #[.int .i64 ((rd_T41 ((rd_T39 l0 a1_0).f2) x48_2).f0), .int .i64 ((rd_T41 ((rd_T39 l0 a1_0).f2) x48_2).f1)] 41 (0, 0))) := ⟨by (with_reducible repeat (first | refine blk_drewN ?_ _ | refine blk_drew ?_ | refine blk_alloc ?_ _)); refine blk_far ?_ (by have h_ := Kd.R_ne HO_397003.out BK401.out (by decide); intro e_; exact h_ (by rw [e_]; rfl)) _; (with_reducible repeat (first | refine blk_drewN ?_ _ | refine blk_drew ?_ | refine blk_alloc ?_ _)); exact BK401.out⟩
                  have n8_ : Aside0 (Below w.heap.size w (w72.setCell ⟨go55, (x48_2 : Int).toNat, none⟩ (.int .i64 ji53))) := ⟨by repeat (first | (with_reducible first | exact HB.out | apply below_alloc | apply pw_below_drewN | apply below_drew1 | refine below_set ?_ GB55.out | refine below_set ?_ GE375.out | refine below_set ?_ GE376.out | refine below_set ?_ GE396.out | refine below_set ?_ GE401.out) | exact HB.out)⟩
                  (try clear HO_397003)
                  (try clear HO_397004)
                  (try clear HO_397005)
                  (try clear HO_397006)
                  (try clear BK375)
                  (try clear BK376)
                  (try clear BK396)
                  (try clear BK401)
                  (try clear HB)
                  generalize (w72.setCell ⟨go55, (x48_2 : Int).toNat, none⟩ (.int .i64 ji53)) = w74 at n0_ n1_ n2_ n3_ n4_ n5_ n6_ n7_ n8_ ⊢
                  have HO_397003 := n0_
                  have HO_397004 := n1_
                  have HO_397005 := n2_
                  have HO_397006 := n3_
                  have BK375 := n4_
                  have BK376 := n5_
                  have BK396 := n6_
                  have BK401 := n7_
                  have HB := n8_
                  clear n0_ n1_ n2_ n3_ n4_ n5_ n6_ n7_ n8_
                  replace HO_397003 := Aside0.mk (Kd.R_drew HO_397003.out)
                  replace HO_397004 := Aside0.mk (Kd.R_drew HO_397004.out)
                  replace HO_397005 := Aside0.mk (Kd.R_drew HO_397005.out)
                  replace HO_397006 := Aside0.mk (Kd.R_drew HO_397006.out)
                  replace BK375 := Aside0.mk (blk_drew BK375.out)
                  replace BK376 := Aside0.mk (blk_drew BK376.out)
                  replace BK396 := Aside0.mk (blk_drew BK396.out)
                  replace BK401 := Aside0.mk (blk_drew BK401.out)
                  replace HB := Aside0.mk (below_drew1 HB.out)
                  have p406 : 0 ≤ (x48_2 : Int) := of_decide_eq_true tW_
                  have q406 : x48_2 < (l1_5.length : Int) := of_decide_eq_true tW_
                  obtain ⟨ad406, e406, hx406_0⟩ := Kd.at_int HR1_5.out x48_2 p406 q406
                  have hw406_0 := hx406_0
                  cases e406
                  replace hx406_0 := bc_ HB hx406_0
                  replace p406 := eq_true p406
                  replace q406 := eq_true q406
                  have p59 : 0 ≤ (x48_2 : Int) := of_decide_eq_true tW_
                  have q59 : (x48_2 : Int) < ((x397005_2.length : Int) : Int) := of_decide_eq_true tW_
                  obtain ⟨go59, co59, eo59, gb59, gl59, cl59, HG59⟩ := Kd.R_form HO_397005.out (by omega)
                  (first | cases eo59 | (injection eo59 with ea_ en_ ec_; (first | subst ea_ | (injection ea_ with ea_; subst ea_)); subst ec_; clear en_))
                  have GB59 := Aside0.mk gb59
                  have GG59 := Aside0.mk HG59
                  clear gb59 gl59 HG59
                  obtain ⟨hx59_0, hf59_0⟩ := Kd.R_celln 0 HO_397005.out (x48_2 : Int) p59 q59
                  replace p59 := eq_true p59
                  replace q59 := eq_true q59
                  have HP76 := Kd.R_putn HO_397005.out (x48_2 : Int) ji57
                  rw [← Ny407.out] at HP76
                  have HQ76 := Aside0.mk HP76
                  clear HP76
                  refine start_ (n := 14) (S := fun w' => w'.cell? ⟨gb396, 0, none⟩ = some (.int .i64 t378) ∧ w'.cell? ⟨gb396, 1, none⟩ = some (.int .i64 t379) ∧ w'.cell? ⟨gb396, 2, none⟩ = some (.int .i64 t380) ∧ w'.cell? ⟨gb396, 3, none⟩ = some (.slice (some ⟨go55, 0, none⟩) x397003_2.length co55) ∧ w'.cell? ⟨gb396, 4, none⟩ = some (.slice (some ⟨go51, 0, none⟩) x397004_2.length co51) ∧ w'.cell? ⟨gb396, 5, none⟩ = some (.slice (some ⟨go59, 0, none⟩) x397005_2.length co59) ∧ w'.cell? ⟨gb396, 6, none⟩ = some (u397006) ∧ w'.cell? ⟨gb396, 7, none⟩ = some (.int .i64 t393) ∧ w'.cell? ⟨gb396, 8, none⟩ = some (.int .i64 t394) ∧ w'.cell? ⟨gb396, 9, none⟩ = some (.bool t395) ∧ w'.cell? ⟨gb375, 0, none⟩ = some (.int .i64 a1_0) ∧ w'.cell? ⟨gb375, 1, none⟩ = some (.int .i64 a1_1) ∧ w'.cell? ⟨gb375, 2, none⟩ = some (.int .i64 a1_2) ∧ w'.cell? ⟨gb375, 3, none⟩ = some (.slice (some ad404) l1_3.length c1_3) ∧ w'.cell? ⟨gb375, 4, none⟩ = some (.slice (some ad402) l1_4.length c1_4) ∧ w'.cell? ⟨gb375, 5, none⟩ = some (.slice (some ad406) l1_5.length c1_5) ∧ w'.cell? ⟨gb375, 6, none⟩ = some (.slice A1_6 l1_6.length c1_6) ∧ w'.cell? ⟨gb375, 7, none⟩ = some (.int .i64 a1_7) ∧ w'.cell? ⟨gb375, 8, none⟩ = some (.int .i64 a1_8) ∧ w'.cell? ⟨gb375, 9, none⟩ = some (.bool a1_9) ∧ w'.cell? (ad406.add (x48_2).toNat) = some (.int .i64 (rd l1_5 x48_2))) (ds := [13]) #[false, false, false, false, false, false, false, false, false, false, false, false, false, false] (by kernel_rfl) rfl rfl ⟨(blk_cell BK396.out 0).trans rfl, (blk_cell BK396.out 1).trans rfl, (blk_cell BK396.out 2).trans rfl, (blk_cell BK396.out 3).trans rfl, (blk_cell BK396.out 4).trans rfl, (blk_cell BK396.out 5).trans rfl, (blk_cell BK396.out 6).trans rfl, (blk_cell BK396.out 7).trans rfl, (blk_cell BK396.out 8).trans rfl, (blk_cell BK396.out 9).trans rfl, (blk_cell BK375.out 0).trans rfl, (blk_cell BK375.out 1).trans rfl, (blk_cell BK375.out 2).trans rfl, (blk_cell BK375.out 3).trans rfl, (blk_cell BK375.out 4).trans rfl, (blk_cell BK375.out 5).trans rfl, (blk_cell BK375.out 6).trans rfl, (blk_cell BK375.out 7).trans rfl, (blk_cell BK375.out 8).trans rfl, (blk_cell BK375.out 9).trans rfl, ((HB.out.cell (World.block_lt_of_cell? w _ hw406_0)).trans hw406_0)⟩ (fun hHeld => ?_); refine with_tabW hinterlandref10_Bring.tab13 hinterlandref10_Bring.bits13 (fun HT_ HW_ => ?_)
                  generalize w74.drew = w75 at HO_397003 HO_397004 HO_397005 HO_397006 BK375 BK376 BK396 BK401 HB GG59 HQ73 HQ76 hf59_0 hx406_0 hx59_0 hHeld ⊢
                  refine pure_ (i := 0) (N := some 82) (v := ?_) (a' := ?_) #[true, false, false, false, false, false, false, false, false, false, false, false, false, false] rfl rfl (any_of HT_.out (by kernel_rfl)) (fun _ _ _ h => h) (Or.inl ⟨by rfl, ?_⟩) ?_ ?_
                  rotate_left
                  ·intro w'
                   go_simp
                   with_reducible rfl
                  rotate_left
                  ·simp only [Act.put, sI_, s0_, sS_, i64_w, i32_w]
                   rfl
                  refine pure_ (i := 2) (N := some 84) (v := ?_) (a' := ?_) #[true, false, true, false, false, false, false, false, false, false, false, false, false, false] rfl rfl (any_of HT_.out (by kernel_rfl)) (fun _ _ _ h => h) (Or.inl ⟨by rfl, ?_⟩) ?_ ?_
                  rotate_left
                  ·intro w'
                   go_simp
                   with_reducible rfl
                  rotate_left
                  ·simp only [Act.put, sI_, s0_, sS_, i64_w, i32_w]
                   rfl
                  refine pure_ (i := 3) (N := some 85) (v := ?_) (a' := ?_) #[true, false, true, true, false, false, false, false, false, false, false, false, false, false] rfl rfl (any_of HT_.out (by kernel_rfl)) (fun _ _ _ h => h) (Or.inl ⟨by rfl, ?_⟩) ?_ ?_
                  rotate_left
                  ·intro w'
                   go_simp
                   with_reducible rfl
                  rotate_left
                  ·simp only [Act.put, sI_, s0_, sS_, i64_w, i32_w]
                   rfl
                  refine pure_ (i := 5) (N := some 87) (v := ?_) (a' := ?_) #[true, false, true, true, false, true, false, false, false, false, false, false, false, false] rfl rfl (any_of HT_.out (by kernel_rfl)) (fun _ _ _ h => h) (Or.inl ⟨by rfl, ?_⟩) ?_ ?_
                  rotate_left
                  ·intro w'
                   go_simp
                   with_reducible rfl
                  rotate_left
                  ·simp only [Act.put, sI_, s0_, sS_, i64_w, i32_w]
                   rfl
                  refine pure_ (i := 8) (N := some 90) (v := ?_) (a' := ?_) #[true, false, true, true, false, true, false, false, true, false, false, false, false, false] rfl rfl (any_of HT_.out (by kernel_rfl)) (fun _ _ _ h => h) (Or.inl ⟨by rfl, ?_⟩) ?_ ?_
                  rotate_left
                  ·intro w'
                   go_simp
                   with_reducible rfl
                  rotate_left
                  ·simp only [Act.put, sI_, s0_, sS_, i64_w, i32_w]
                   rfl
                  refine pure_ (i := 9) (N := some 91) (v := ?_) (a' := ?_) #[true, false, true, true, false, true, false, false, true, true, false, false, false, false] rfl rfl (any_of HT_.out (by kernel_rfl)) (fun _ _ _ h => h) (Or.inl ⟨by rfl, ?_⟩) ?_ ?_
                  rotate_left
                  ·intro w'
                   go_simp
                   with_reducible rfl
                  rotate_left
                  ·simp only [Act.put, sI_, s0_, sS_, i64_w, i32_w]
                   rfl
                  refine take_ (i := 1) (N := some 83) (v := ?_) (a' := ?_) #[true, true, true, true, false, true, false, false, true, true, false, false, false, false] rfl rfl (take_ofW HT_.out HW_.out (by kernel_rfl)) (fun _ _ _ h => h) (Or.inl ⟨by rfl, ?_⟩) hHeld ?_ ?_
                  rotate_left
                  ·rintro w' ⟨s0, s1, s2, s3, s4, s5, s6, s7, s8, s9, s10, s11, s12, s13, s14, s15, s16, s17, s18, s19, s20⟩
                   go_simp
                   with_reducible rfl
                  rotate_left
                  ·simp only [Act.put, sI_, s0_, sS_, i64_w, i32_w]
                   rfl
                  refine take_ (i := 4) (N := some 86) (v := ?_) (a' := ?_) #[true, true, true, true, true, true, false, false, true, true, false, false, false, false] rfl rfl (take_ofW HT_.out HW_.out (by kernel_rfl)) (fun _ _ _ h => h) (Or.inl ⟨by rfl, ?_⟩) hHeld ?_ ?_
                  rotate_left
                  ·rintro w' ⟨s0, s1, s2, s3, s4, s5, s6, s7, s8, s9, s10, s11, s12, s13, s14, s15, s16, s17, s18, s19, s20⟩
                   go_simp
                   with_reducible rfl
                  rotate_left
                  ·simp only [Act.put, sI_, s0_, sS_, i64_w, i32_w]
                   rfl
                  refine pure_ (i := 6) (N := some 88) (v := ?_) (a' := ?_) #[true, true, true, true, true, true, true, false, true, true, false, false, false, false] rfl rfl (any_of HT_.out (by kernel_rfl)) (fun _ _ _ h => h) (Or.inl ⟨by rfl, ?_⟩) ?_ ?_
                  rotate_left
                  ·intro w'
                   go_simp
                   with_reducible rfl
                  rotate_left
                  ·simp only [Act.put, sI_, s0_, sS_, i64_w, i32_w]
                   rfl
                  refine take_ (i := 7) (N := some 89) (v := ?_) (a' := ?_) #[true, true, true, true, true, true, true, true, true, true, false, false, false, false] rfl rfl (take_ofW HT_.out HW_.out (by kernel_rfl)) (fun _ _ _ h => h) (Or.inl ⟨by rfl, ?_⟩) hHeld ?_ ?_
                  rotate_left
                  ·rintro w' ⟨s0, s1, s2, s3, s4, s5, s6, s7, s8, s9, s10, s11, s12, s13, s14, s15, s16, s17, s18, s19, s20⟩
                   go_simp
                   with_reducible rfl
                  rotate_left
                  ·simp only [Act.put, sI_, s0_, sS_, i64_w, i32_w]
                   rfl
                  refine pure_ (i := 10) (N := some 92) (v := ?_) (a' := ?_) #[true, true, true, true, true, true, true, true, true, true, true, false, false, false] rfl rfl (any_of HT_.out (by kernel_rfl)) (fun _ _ _ h => h) (Or.inl ⟨by rfl, ?_⟩) ?_ ?_
                  rotate_left
                  ·intro w'
                   go_simp
                   with_reducible rfl
                  rotate_left
                  ·simp only [Act.put, sI_, s0_, sS_, i64_w, i32_w]
                   rfl
                  refine pure_ (i := 11) (N := some 93) (v := ?_) (a' := ?_) #[true, true, true, true, true, true, true, true, true, true, true, true, false, false] rfl rfl (any_of HT_.out (by kernel_rfl)) (fun _ _ _ h => h) (Or.inl ⟨by rfl, ?_⟩) ?_ ?_
                  rotate_left
                  ·intro w'
                   go_simp
                   with_reducible rfl
                  rotate_left
                  ·simp only [Act.put, sI_, s0_, sS_, i64_w, i32_w]
                   rfl
                  refine pure_ (i := 12) (N := some 94) (v := ?_) (a' := ?_) #[true, true, true, true, true, true, true, true, true, true, true, true, true, false] rfl rfl (any_of HT_.out (by kernel_rfl)) (fun _ _ _ h => h) (Or.inl ⟨by rfl, ?_⟩) ?_ ?_
                  rotate_left
                  ·intro w'
                   go_simp
                   with_reducible rfl
                  rotate_left
                  ·simp only [Act.put, sI_, s0_, sS_, i64_w, i32_w]
                   rfl
                  refine last_ (i := 13) (N := none) #[true, true, true, true, true, true, true, true, true, true, true, true, true, true] rfl rfl (one_of HT_.out (by kernel_rfl)) (by decide) (fun K hK => ?_)
                  refine skip_ (w1 := ?_) (by rfl) rfl ?_ ?_
                  rotate_left
                  ·go_simp
                   rfl
                  refine hK.out _ _ ?_
                  clear hK K
                  refine done_ (done_of HT_.out (by kernel_rfl)) ?_
                  try go_wp2
                  go_roundg k2
                  case measure => have := HJ7.out; have := HK2.out; omega
                  case rel => exact ⟨(wrap64 (x48_2 + 1)), (y405), (y403), (y407), (x397006_2), (.slice (some ⟨go55, 0, none⟩) x397003_2.length co55), (.slice (some ⟨go51, 0, none⟩) x397004_2.length co51), (.slice (some ⟨go59, 0, none⟩) x397005_2.length co59), (u397006), tS_, H', ⟨by have := HJ7.out; have := HK2.out; omega⟩, ⟨by (with_reducible repeat (first | apply Kd.R_alloc | apply Kd.R_drewN | apply Kd.R_drew)); exact Kd.R_mono (Kd.R_far (p := ⟨go59, (x48_2 : Int).toNat, none⟩) (Kd.R_mono HO_397003.out (fun k_ hk => (⟨hk, fun e_ => hk.2.1 (by rw [e_]; rfl)⟩ : _ ∧ k_ ≠ go59))) (fun _ hk => hk.2) (.int .i64 ji57)) (fun _ hk => ⟨hk.1.1, ⟨hk.1.2.1, hk.1.2.2⟩⟩)⟩, ⟨by (with_reducible repeat (first | apply Kd.R_alloc | apply Kd.R_drewN | apply Kd.R_drew)); exact Kd.R_mono (Kd.R_far (p := ⟨go59, (x48_2 : Int).toNat, none⟩) (Kd.R_mono HO_397004.out (fun k_ hk => (⟨hk, fun e_ => hk.2.1 (by rw [e_]; rfl)⟩ : _ ∧ k_ ≠ go59))) (fun _ hk => hk.2) (.int .i64 ji57)) (fun _ hk => ⟨hk.1.1, ⟨hk.1.2.1, hk.1.2.2⟩⟩)⟩, ⟨dR_ HQ76⟩, ⟨by (with_reducible repeat (first | apply Kd.R_alloc | apply Kd.R_drewN | apply Kd.R_drew)); exact Kd.R_mono (Kd.R_far (p := ⟨go59, (x48_2 : Int).toNat, none⟩) (Kd.R_mono HO_397006.out (fun k_ hk => (⟨hk, fun e_ => hk.2.2 (by rw [e_]; rfl)⟩ : _ ∧ k_ ≠ go59))) (fun _ hk => hk.2) (.int .i64 ji57)) (fun _ hk => ⟨hk.1.1, ⟨hk.1.2.1, hk.1.2.2⟩⟩)⟩, ⟨by (with_reducible repeat (first | refine blk_drewN ?_ _ | refine blk_drew ?_ | refine blk_alloc ?_ _)); refine blk_far ?_ (by have h_ := Kd.R_ne HO_397005.out BK375.out (by decide); intro e_; exact h_ (by rw [e_]; rfl)) _; (with_reducible repeat (first | refine blk_drewN ?_ _ | refine blk_drew ?_ | refine blk_alloc ?_ _)); exact BK375.out⟩, ⟨by (with_reducible repeat (first | refine blk_drewN ?_ _ | refine blk_drew ?_ | refine blk_alloc ?_ _)); refine blk_far ?_ (by have h_ := Kd.R_ne HO_397005.out BK376.out (by decide); intro e_; exact h_ (by rw [e_]; rfl)) _; (with_reducible repeat (first | refine blk_drewN ?_ _ | refine blk_drew ?_ | refine blk_alloc ?_ _)); exact BK376.out⟩, ⟨by (with_reducible repeat (first | refine blk_drewN ?_ _ | refine blk_drew ?_ | refine blk_alloc ?_ _)); refine blk_far ?_ (by have h_ := Kd.R_ne HO_397005.out BK396.out (by decide); intro e_; exact h_ (by rw [e_]; rfl)) _; (with_reducible repeat (first | refine blk_drewN ?_ _ | refine blk_drew ?_ | refine blk_alloc ?_ _)); exact BK396.out⟩, ⟨by repeat (first | (with_reducible first | exact HB.out | apply below_alloc | apply pw_below_drewN | apply below_drew1 | refine below_set ?_ GB59.out | refine below_set ?_ GE375.out | refine below_set ?_ GE376.out | refine below_set ?_ GE396.out | refine below_set ?_ GE401.out) | exact HB.out)⟩⟩
                 ·rw [if_neg c58] at H
                  exact absurd H (by simp)
                ·rw [if_neg c56] at H
                 exact absurd H (by simp)
               ·rw [if_neg c54] at H
                exact absurd H (by simp)
              ·rw [if_neg c52] at H
               exact absurd H (by simp)
             ·rw [if_neg c50] at H
              exact absurd H (by simp)
            ·rw [if_neg c49] at H
             exact absurd H (by simp)
           ·rw [if_neg c48] at H
            exact absurd H (by simp)
          ·rw [if_neg c47] at H
           exact absurd H (by simp)
         ·rw [if_neg c46] at H
          have c46b0 : decide (x48_2 < (((rd_T39 l0 a1_0).f2).length : Int)) = false := decide_eq_false c46
          clear c46
          obtain ⟨ji77, hji77⟩ : ∃ j_ : Int, (mn (wrap64 (a1_7 + a3)) 1000000) = j_ := ⟨_, rfl⟩
          replace H : (some (t378, t379, t380, x397003_2, x397004_2, x397005_2, x397006_2, ji77, t394, t395, a3, 0)) = some (r1, r2, r3, r4, r5, r6, r7, r8, r9, r10, r11, r12) := by first | (rw [hji77] at H; exact H) | (simp only [hji77] at H ⊢; exact H)
          have hji77_ : (if 1000000 < (wrap64 (a1_7 + a3)) then 1000000 else (wrap64 (a1_7 + a3))) = ji77 := hji77
          simp only [Option.some.injEq, Prod.mk.injEq] at H
          obtain ⟨rfl, rfl, rfl, rfl, rfl, rfl, rfl, rfl, rfl, rfl, rfl, rfl⟩ := H
          have hnb78 := NB375_376.out
          have hnc78 := NB376_375.out
          have hnb79 := NB375_396.out
          have hnc79 := NB396_375.out
          obtain ⟨hcz80_0, hcz80_1, hcz80_2, hcz80_3, hcz80_4, hcz80_5, hcz80_6, hcz80_7, hcz80_8, hcz80_9, hfz80_0, hfz80_1, hfz80_2, hfz80_3, hfz80_4, hfz80_5, hfz80_6, hfz80_7, hfz80_8, hfz80_9⟩ := cs10_ BK375.out
          have hnb81 := NB396_376.out
          have hnc81 := NB376_396.out
          obtain ⟨hcz82_0, hcz82_1, hcz82_2, hcz82_3, hcz82_4, hcz82_5, hcz82_6, hcz82_7, hcz82_8, hcz82_9, hfz82_0, hfz82_1, hfz82_2, hfz82_3, hfz82_4, hfz82_5, hfz82_6, hfz82_7, hfz82_8, hfz82_9⟩ := cs10_ BK396.out
          obtain ⟨hcz83_0, hcz83_1, hcz83_2, hcz83_3, hcz83_4, hcz83_5, hcz83_6, hcz83_7, hcz83_8, hcz83_9, hfz83_0, hfz83_1, hfz83_2, hfz83_3, hfz83_4, hfz83_5, hfz83_6, hfz83_7, hfz83_8, hfz83_9⟩ := cs10_ BK376.out
          obtain ⟨Ao84, co84, eo84⟩ := Kd.R_slice HO_397003.out
          subst eo84
          obtain ⟨Ao85, co85, eo85⟩ := Kd.R_slice HO_397004.out
          subst eo85
          obtain ⟨Ao86, co86, eo86⟩ := Kd.R_slice HO_397005.out
          subst eo86
          obtain ⟨Ao87, co87, eo87⟩ := Kd.R_slice HO_397006.out
          subst eo87
          go_wp2
          refine bodyPost_ret (results_ctt rfl _ _ gb376 25 #[.int .i64 t378, .int .i64 t379, .int .i64 t380, .slice Ao84 x397003_2.length co84, .slice Ao85 x397004_2.length co85, .slice Ao86 x397005_2.length co86, .slice Ao87 x397006_2.length co87, .int .i64 ji77, .int .i64 t394, .bool t395] (0, 0) _ rfl (by (with_reducible repeat (first | refine blk_drewN ?_ _ | refine blk_drew ?_ | refine blk_alloc ?_ _)); refine blk_put (cs := #[.int .i64 t378, .int .i64 t379, .int .i64 t380, .slice Ao84 x397003_2.length co84, .slice Ao85 x397004_2.length co85, .slice Ao86 x397005_2.length co86, .slice Ao87 x397006_2.length co87, .int .i64 ji77, .int .i64 t394, .bool false]) ?_ 9 _ rfl; (with_reducible repeat (first | refine blk_drewN ?_ _ | refine blk_drew ?_ | refine blk_alloc ?_ _)); refine blk_put (cs := #[.int .i64 t378, .int .i64 t379, .int .i64 t380, .slice Ao84 x397003_2.length co84, .slice Ao85 x397004_2.length co85, .slice Ao86 x397005_2.length co86, .slice Ao87 x397006_2.length co87, .int .i64 ji77, .int .i64 0, .bool false]) ?_ 8 _ rfl; (with_reducible repeat (first | refine blk_drewN ?_ _ | refine blk_drew ?_ | refine blk_alloc ?_ _)); refine blk_put (cs := #[.int .i64 t378, .int .i64 t379, .int .i64 t380, .slice Ao84 x397003_2.length co84, .slice Ao85 x397004_2.length co85, .slice Ao86 x397005_2.length co86, .slice Ao87 x397006_2.length co87, .int .i64 0, .int .i64 0, .bool false]) ?_ 7 _ rfl; (with_reducible repeat (first | refine blk_drewN ?_ _ | refine blk_drew ?_ | refine blk_alloc ?_ _)); refine blk_put (cs := #[.int .i64 t378, .int .i64 t379, .int .i64 t380, .slice Ao84 x397003_2.length co84, .slice Ao85 x397004_2.length co85, .slice Ao86 x397005_2.length co86, .slice none 0 0, .int .i64 0, .int .i64 0, .bool false]) ?_ 6 _ rfl; (with_reducible repeat (first | refine blk_drewN ?_ _ | refine blk_drew ?_ | refine blk_alloc ?_ _)); refine blk_put (cs := #[.int .i64 t378, .int .i64 t379, .int .i64 t380, .slice Ao84 x397003_2.length co84, .slice Ao85 x397004_2.length co85, .slice none 0 0, .slice none 0 0, .int .i64 0, .int .i64 0, .bool false]) ?_ 5 _ rfl; (with_reducible repeat (first | refine blk_drewN ?_ _ | refine blk_drew ?_ | refine blk_alloc ?_ _)); refine blk_put (cs := #[.int .i64 t378, .int .i64 t379, .int .i64 t380, .slice Ao84 x397003_2.length co84, .slice none 0 0, .slice none 0 0, .slice none 0 0, .int .i64 0, .int .i64 0, .bool false]) ?_ 4 _ rfl; (with_reducible repeat (first | refine blk_drewN ?_ _ | refine blk_drew ?_ | refine blk_alloc ?_ _)); refine blk_put (cs := #[.int .i64 t378, .int .i64 t379, .int .i64 t380, .slice none 0 0, .slice none 0 0, .slice none 0 0, .slice none 0 0, .int .i64 0, .int .i64 0, .bool false]) ?_ 3 _ rfl; (with_reducible repeat (first | refine blk_drewN ?_ _ | refine blk_drew ?_ | refine blk_alloc ?_ _)); refine blk_put (cs := #[.int .i64 t378, .int .i64 t379, .int .i64 0, .slice none 0 0, .slice none 0 0, .slice none 0 0, .slice none 0 0, .int .i64 0, .int .i64 0, .bool false]) ?_ 2 _ rfl; (with_reducible repeat (first | refine blk_drewN ?_ _ | refine blk_drew ?_ | refine blk_alloc ?_ _)); refine blk_put (cs := #[.int .i64 t378, .int .i64 0, .int .i64 0, .slice none 0 0, .slice none 0 0, .slice none 0 0, .slice none 0 0, .int .i64 0, .int .i64 0, .bool false]) ?_ 1 _ rfl; (with_reducible repeat (first | refine blk_drewN ?_ _ | refine blk_drew ?_ | refine blk_alloc ?_ _)); refine blk_put (cs := #[.int .i64 0, .int .i64 0, .int .i64 0, .slice none 0 0, .slice none 0 0, .slice none 0 0, .slice none 0 0, .int .i64 0, .int .i64 0, .bool false]) ?_ 0 _ rfl; (with_reducible repeat (first | refine blk_drewN ?_ _ | refine blk_drew ?_ | refine blk_alloc ?_ _)); refine blk_far ?_ NB376_396.out _; (with_reducible repeat (first | refine blk_drewN ?_ _ | refine blk_drew ?_ | refine blk_alloc ?_ _)); exact BK376.out) Try.underlying25 rfl (by kernel_rfl)) rfl ?_
          exact ⟨_, _, _, _, by first | rfl | (simp [errW_none, errW_some] <;> rfl) | (simp only [← hji77]; first | rfl | (simp [errW_none, errW_some] <;> rfl)) | (simp [*, errW_none, errW_some] <;> rfl), by (with_reducible repeat (first | apply Kd.R_alloc | apply Kd.R_drewN | apply Kd.R_drew)); exact Kd.R_mono (far10_ (Kd.R_far (p := ⟨gb396, 7, none⟩) (Kd.R_types (Kd.R_types HO_397003.out BK396.out (by decide)) BK376.out (by decide)) (fun _ hk => hk.1.2) (.int .i64 ji77)) gb376 (fun _ hk => hk.2) (.int .i64 t378) (.int .i64 t379) (.int .i64 t380) (.slice Ao84 x397003_2.length co84) (.slice Ao85 x397004_2.length co85) (.slice Ao86 x397005_2.length co86) (.slice Ao87 x397006_2.length co87) (.int .i64 ji77) (.int .i64 t394) (.bool t395)) (fun _ hk => ⟨hk.1.1.1, ⟨hk.1.1.2.1, hk.1.1.2.2⟩⟩), by (with_reducible repeat (first | apply Kd.R_alloc | apply Kd.R_drewN | apply Kd.R_drew)); exact Kd.R_mono (far10_ (Kd.R_far (p := ⟨gb396, 7, none⟩) (Kd.R_types (Kd.R_types HO_397004.out BK396.out (by decide)) BK376.out (by decide)) (fun _ hk => hk.1.2) (.int .i64 ji77)) gb376 (fun _ hk => hk.2) (.int .i64 t378) (.int .i64 t379) (.int .i64 t380) (.slice Ao84 x397003_2.length co84) (.slice Ao85 x397004_2.length co85) (.slice Ao86 x397005_2.length co86) (.slice Ao87 x397006_2.length co87) (.int .i64 ji77) (.int .i64 t394) (.bool t395)) (fun _ hk => ⟨hk.1.1.1, ⟨hk.1.1.2.1, hk.1.1.2.2⟩⟩), by (with_reducible repeat (first | apply Kd.R_alloc | apply Kd.R_drewN | apply Kd.R_drew)); exact Kd.R_mono (far10_ (Kd.R_far (p := ⟨gb396, 7, none⟩) (Kd.R_types (Kd.R_types HO_397005.out BK396.out (by decide)) BK376.out (by decide)) (fun _ hk => hk.1.2) (.int .i64 ji77)) gb376 (fun _ hk => hk.2) (.int .i64 t378) (.int .i64 t379) (.int .i64 t380) (.slice Ao84 x397003_2.length co84) (.slice Ao85 x397004_2.length co85) (.slice Ao86 x397005_2.length co86) (.slice Ao87 x397006_2.length co87) (.int .i64 ji77) (.int .i64 t394) (.bool t395)) (fun _ hk => ⟨hk.1.1.1, ⟨hk.1.1.2.1, hk.1.1.2.2⟩⟩), by (with_reducible repeat (first | apply Kd.R_alloc | apply Kd.R_drewN | apply Kd.R_drew)); exact Kd.R_mono (far10_ (Kd.R_far (p := ⟨gb396, 7, none⟩) (Kd.R_types (Kd.R_types HO_397006.out BK396.out (by decide)) BK376.out (by decide)) (fun _ hk => hk.1.2) (.int .i64 ji77)) gb376 (fun _ hk => hk.2) (.int .i64 t378) (.int .i64 t379) (.int .i64 t380) (.slice Ao84 x397003_2.length co84) (.slice Ao85 x397004_2.length co85) (.slice Ao86 x397005_2.length co86) (.slice Ao87 x397006_2.length co87) (.int .i64 ji77) (.int .i64 t394) (.bool t395)) (fun _ hk => ⟨hk.1.1.1, ⟨hk.1.1.2.1, hk.1.1.2.2⟩⟩), dL3_ HB GE375 GE376 GE396⟩
      ·rw [if_neg c42] at H
       exact absurd H (by simp)
     ·rw [if_neg c41] at H
      exact absurd H (by simp)
 ·rw [if_neg c6] at H
  have c6b0 : (t377 == 0) = false := beq_eq_false_iff_ne.mpr c6
  have c6b1 : (t377 != 0) = true := bne_iff_ne.mpr c6
  simp only [Option.some.injEq, Prod.mk.injEq] at H
  obtain ⟨rfl, rfl, rfl, rfl, rfl, rfl, rfl, rfl, rfl, rfl, rfl, rfl⟩ := H
  go_enter Try.func21, Try.ntmps21
  go_wp2_with (first | ((with_reducible refine gate_dst (N := 5) rfl ?_); refine box_event ?hg (N := 5) ?hd (cs := #[.int .i64 a1_0, .int .i64 a1_1, .int .i64 a1_2, .slice A1_3 l1_3.length c1_3, .slice A1_4 l1_4.length c1_4, .slice A1_5 l1_5.length c1_5, .slice A1_6 l1_6.length c1_6, .int .i64 a1_7, .int .i64 a1_8, .bool a1_9]) (t := 25) ?hr ?_; (case hd => rfl); (case hg => rfl); (case hr => first | (go_simp; done) | (go_simp; rfl)); intro gb375 hg w88 hbox hb; have BK375 := Aside0.mk (hbox); have GW375 := Aside0.mk ((dS_ hg (dL_ HB) : w.heap.size ≤ gb375)); have GE375 := Aside0.mk ((dS_ hg (dL_ HB) : w.heap.size ≤ gb375)); replace HB := Aside0.mk (below_step (dL_ HB) hb); clear hb hbox hg) | ((with_reducible refine gate_dst (N := 8) rfl ?_); refine box_event ?hg (N := 8) ?hd (cs := #[.int .i64 0, .int .i64 0, .int .i64 0, .slice none 0 0, .slice none 0 0, .slice none 0 0, .slice none 0 0, .int .i64 0, .int .i64 0, .bool false]) (t := 25) ?hr ?_; (case hd => rfl); (case hg => rfl); (case hr => first | (go_simp; done) | (go_simp; rfl)); intro gb376 hg w89 hbox hb; have BK376 := Aside0.mk (hbox); have GW376 := Aside0.mk ((dS_ hg (dL1_ HB GE375) : w.heap.size ≤ gb376)); have GE376 := Aside0.mk ((dS_ hg (dL1_ HB GE375) : w.heap.size ≤ gb376)); replace HB := Aside0.mk (below_step (dL1_ HB GE375) hb); have NB375_376 := Aside0.mk ((by rw [hg]; exact Nat.ne_of_lt (blk_lt (dB_ BK375)) : gb375 ≠ gb376)); have NB376_375 := Aside0.mk ((by rw [hg]; exact Nat.ne_of_gt (blk_lt (dB_ BK375)) : gb376 ≠ gb375)); replace BK375 := Aside0.mk (blk_below (g := gb375) (o := .cells #[.int .i64 a1_0, .int .i64 a1_1, .int .i64 a1_2, .slice A1_3 l1_3.length c1_3, .slice A1_4 l1_4.length c1_4, .slice A1_5 l1_5.length c1_5, .slice A1_6 l1_6.length c1_6, .int .i64 a1_7, .int .i64 a1_8, .bool a1_9] 25 (0, 0)) (dB_ BK375) hb); clear hb hbox hg; have hnb90 := NB375_376.out; have hnc90 := NB376_375.out; obtain ⟨hcz91_0, hcz91_1, hcz91_2, hcz91_3, hcz91_4, hcz91_5, hcz91_6, hcz91_7, hcz91_8, hcz91_9, hfz91_0, hfz91_1, hfz91_2, hfz91_3, hfz91_4, hfz91_5, hfz91_6, hfz91_7, hfz91_8, hfz91_9⟩ := cs10_ BK375.out) | ((with_reducible refine gate_callee (f := 40) rfl ?_); refine goesL_ (some 20) rfl rfl Try.func40 (by kernel_rfl) rfl #[.slice A0 l0.length c0, .agg #[.int .i64 a1_0, .int .i64 a1_1, .int .i64 a1_2, .slice A1_3 l1_3.length c1_3, .slice A1_4 l1_4.length c1_4, .slice A1_5 l1_5.length c1_5, .slice A1_6 l1_6.length c1_6, .int .i64 a1_7, .int .i64 a1_8, .bool a1_9], .int .i64 a2, .int .i64 a3] rfl tA_ ?_; (with_reducible refine (hinterlandref10_asked.calls k _ _ l0 a1_0 a1_1 a1_2 _ _ l1_3 _ _ l1_4 _ _ l1_5 _ _ l1_6 a1_7 a1_8 a1_9 a2 a3 t377 _ ?side1 ?side2 ?side3 ?side4 ?side5 ?side6 ?side7 ?side8 ?side9 ?side10 A5.out).mono ?_); (case side1 => exact dC_ HR0 HB); (case side2 => exact HC0.out); (case side3 => exact dC_ HR1_3 HB); (case side4 => exact HC1_3.out); (case side5 => exact dC_ HR1_4 HB); (case side6 => exact HC1_4.out); (case side7 => exact dC_ HR1_5 HB); (case side8 => exact HC1_5.out); (case side9 => exact dC_ HR1_6 HB); (case side10 => exact HC1_6.out); rintro e w92 ⟨rfl, hb⟩; refine ⟨_, rfl, ?_⟩; replace BK375 := Aside0.mk (blk_below (g := gb375) (o := .cells #[.int .i64 a1_0, .int .i64 a1_1, .int .i64 a1_2, .slice A1_3 l1_3.length c1_3, .slice A1_4 l1_4.length c1_4, .slice A1_5 l1_5.length c1_5, .slice A1_6 l1_6.length c1_6, .int .i64 a1_7, .int .i64 a1_8, .bool a1_9] 25 (0, 0)) (dB_ BK375) hb); replace BK376 := Aside0.mk (blk_below (g := gb376) (o := .cells #[.int .i64 0, .int .i64 0, .int .i64 0, .slice none 0 0, .slice none 0 0, .slice none 0 0, .slice none 0 0, .int .i64 0, .int .i64 0, .bool false] 25 (0, 0)) (dB_ BK376) hb); replace HB := Aside0.mk (below_step (dL2_ HB GE375 GE376) hb); obtain ⟨hcz93_0, hcz93_1, hcz93_2, hcz93_3, hcz93_4, hcz93_5, hcz93_6, hcz93_7, hcz93_8, hcz93_9, hfz93_0, hfz93_1, hfz93_2, hfz93_3, hfz93_4, hfz93_5, hfz93_6, hfz93_7, hfz93_8, hfz93_9⟩ := cs10_ BK376.out))
  refine bodyPost_ret (results_ctt rfl _ _ gb376 25 #[.int .i64 0, .int .i64 0, .int .i64 0, .slice none 0 0, .slice none 0 0, .slice none 0 0, .slice none 0 0, .int .i64 0, .int .i64 0, .bool false] (0, 0) _ rfl (dP10_ BK376) Try.underlying25 rfl (by kernel_rfl)) rfl ?_
  exact ⟨_, _, _, _, tE_, by first | exact Kd.R_nil _ _ _ _ _ | exact Kd.N_nil _ _ _ _ _ | exact Kd.V_nil _ _ _ _ _ | exact Kd.Q_nil _ _ _ _ _ | exact Kd.S_nil _ _ _ _ _, by first | exact Kd.R_nil _ _ _ _ _ | exact Kd.N_nil _ _ _ _ _ | exact Kd.V_nil _ _ _ _ _ | exact Kd.Q_nil _ _ _ _ _ | exact Kd.S_nil _ _ _ _ _, by first | exact Kd.R_nil _ _ _ _ _ | exact Kd.N_nil _ _ _ _ _ | exact Kd.V_nil _ _ _ _ _ | exact Kd.Q_nil _ _ _ _ _ | exact Kd.S_nil _ _ _ _ _, by first | exact Kd.R_nil _ _ _ _ _ | exact Kd.N_nil _ _ _ _ _ | exact Kd.V_nil _ _ _ _ _ | exact Kd.Q_nil _ _ _ _ _ | exact Kd.S_nil _ _ _ _ _, dL2_ HB GE375 GE376⟩

end Go.Proofs.Ytnkgelnkoljgdaa.Q
